/- Names, shapes and what is good, as the program has it, walked. (NOBIN: the arithmetic of numbers is not unfolded.) -/
import Derived.Test.YtoimlfaiibadgaaDoordW20
set_option linter.unusedSimpArgs false
set_option linter.unusedVariables false
set_option linter.all false
set_option maxRecDepth 100000
namespace Go.Proofs.YtoimlfaiibadgaaDoor
open Go Go.Abs Go.Lib

theorem valid_ev (lim : Nat) (H : AHeap) (s : Tx) (hs : s.length ≤ 1000000) : Ev X 34 lim [.d (.str s)] H (boolD (vB s)) H :=
  Fn.ev (ev_mk (k0 := 1) fun k hk => by
    obtain ⟨k, rfl⟩ : ∃ p, k = p + 1 := ⟨k - 1, by omega⟩
    show validF lim [.d (.str s)] H = _
    unfold validF
    simp only
    rw [if_pos (by omega)])

def mE (s : Tx) : D × AV := (.str s, .d (.bool true))

theorem beq_str (s t : Tx) : D.beq (.str s) (.str t) = decide (s = t) := by
  rw [Bool.eq_iff_iff]; simp [D.beq]

theorem find_no : ∀ {rows : List Tx} {s : Tx}, s ∉ rows → findE (.str s) (rows.map mE) = none
  | [], _, _ => rfl
  | t :: rows, s, h => by
    have h1 : s ≠ t := fun e => h (e ▸ List.mem_cons_self)
    show (if D.beq (.str s) (.str t) then _ else findE (.str s) (rows.map mE)) = none
    rw [beq_str, decide_eq_false h1, if_neg (by simp)]
    exact find_no fun k => h (List.mem_cons_of_mem _ k)

theorem find_yes : ∀ {rows : List Tx} {s : Tx}, s ∈ rows → findE (.str s) (rows.map mE) = some (.d (.bool true))
  | t :: rows, s, h => by
    show (if D.beq (.str s) (.str t) then some (.d (.bool true)) else findE (.str s) (rows.map mE)) = _
    rw [beq_str]
    by_cases h1 : s = t
    · rw [decide_eq_true h1, if_pos rfl]
    · rw [decide_eq_false h1, if_neg (by simp)]
      rcases List.mem_cons.1 h with e | h
      · exact absurd e h1
      · exact find_yes h

theorem set_no : ∀ {rows : List Tx} {s : Tx}, s ∉ rows → setE (.str s) (.d (.bool true)) (rows.map mE) = (rows ++ [s]).map mE
  | [], _, _ => rfl
  | t :: rows, s, h => by
    have h1 : s ≠ t := fun e => h (e ▸ List.mem_cons_self)
    show (if D.beq (.str s) (.str t) then _ else (.str t, .d (.bool true)) :: setE (.str s) (.d (.bool true)) (rows.map mE)) = _
    rw [beq_str, decide_eq_false h1, if_neg (by simp), set_no fun k => h (List.mem_cons_of_mem _ k)]
    rfl

theorem named_ev (lim : Nat) (H : AHeap) (ks : List Tx) (hk : ks.length ≤ 100000) (hs : ∀ s ∈ ks, s.length ≤ 1000000) : Ev X 68 lim [.d (sD ks)] H (boolD (namedB ks)) H := by
  refine Fn.ev ?_
  refine Fn_of rfl (show code 68 = some c68 from rfl) rfl ?_; simp only [List.length_cons, List.length_nil, Nat.reduceAdd, Nat.reduceSub, List.reduceReplicate, List.cons_append, List.nil_append, reduceIte, Bool.false_eq_true]
  (repeat ((first | refine W_sq ?_ | refine W_bk ?_ | refine W_ret ?_ | refine W_exit ?_ | refine W_skip ?_ | (apply W_rg; focus (intro _; simp only [evalR,runOps,stepOp,wanted,aop,evx,put,unflag,AV.elems,AV.unf,List.contains,List.elem,z2,z3,z4,z5,Option.map,intD,reduceIte,z23,forgetT,z29,List.length_map]; (first | done | exact rfl))) | (refine W_cT ?_ ?_; focus (simp only [evx,List.contains,List.elem,z2,z3,AV.unf,reduceIte,z23,boolD]; done)) | (refine W_cF ?_ ?_; focus (simp only [evx,List.contains,List.elem,z2,z3,AV.unf,reduceIte,z23,boolD]; done))) <;> (try simp only [seqK])))
  refine W_lp (fun k st => ∃ (i : Nat) (K : AHeap), i ≤ ks.length ∧ k = ks.length - i ∧ (ks.take i).all vB = true ∧ (ks.take i).Nodup ∧ K[H.length]? = some (.map .str ((ks.take i).map mE)) ∧ ∃ x : Nat → AV, st = ⟨[x 0, x 1, x 2, boolD false, .mapr H.length, .d (sD ks), intD ks.length, intD i, x 8, x 9, x 10], K⟩) ?_ _ _ ⟨0, _, Nat.zero_le _, rfl, rfl, List.nodup_nil, get_last _ _, ex_st _ _ _ rfl⟩
  rintro k _ ⟨i, K, hi, rfl, ha, hnd, gK, x, rfl⟩
  by_cases t0 : i < ks.length
  · have f1 : ((i : Int) < (ks.length : Int)) = True := eq_true (by omega)
    have w1 : IntKind.i64.wrap ((i : Int) + 1) = ((i + 1 : Nat) : Int) := wsucc (by omega)
    obtain ⟨s, hsx⟩ : ∃ s, ks[i]? = some s := ⟨_, List.getElem?_eq_getElem t0⟩
    have hc : ∀ s : Tx, (D.str s).cells = [D.str s] := fun _ => rfl
    have hik : ∀ s : Tx, isKey .str (.str s) = true := fun _ => rfl
    have hst := all_cut hsx vB
    rw [ha, Bool.true_and] at hst
    by_cases hm : s ∈ ks.take i
    · have hf := find_yes hm
      have hno : namedB ks = false := by
        obtain ⟨q, hq, he⟩ := List.getElem_of_mem hm
        have hq' : q < i := by simp at hq; omega
        rw [List.getElem_take] at he
        exact nodup_no hsx (by rw [← he]; exact List.getElem?_eq_getElem _) hq'
      rw [hno]
      generalize (ks.take i).map mE = es at *
      (repeat ((first | refine W_sq ?_ | refine W_bk ?_ | refine W_ret ?_ | refine W_exit ?_ | refine W_skip ?_ | (apply W_rg; focus (intro _; simp only [evalR,runOps,stepOp,wanted,aop,evx,put,unflag,binV,isShift,AV.elems,AV.unf,AV.int?,D.cells,readD,List.contains,List.elem,z2,z3,z4,z5,z7,z10,z11,z14,z15,Option.map,intD,boolD,reduceIte,z23,forgetT,z26,z29,z42,z44,z51,z52,z55,z62,gK, b_lss, f1, hsx, hik, hf]; (first | done | exact rfl))) | (refine W_cT ?_ ?_; focus (simp only [evx,List.contains,List.elem,z2,z3,AV.unf,reduceIte,z23]; done)) | (refine W_cF ?_ ?_; focus (simp only [evx,List.contains,List.elem,z2,z3,AV.unf,reduceIte,z23,boolD]; done))) <;> (try simp only [seqK,blockK,loopK])))
      exact ans_cut rfl rfl ⟨rfl, rfl⟩
    · have hf := find_no hm
      have hse := set_no hm
      have hx : ks.take i ++ [s] = ks.take (i + 1) := by rw [List.take_add_one, hsx]; rfl
      rw [hx] at hse
      have hn2 := nodup_step hsx hnd hm
      have he := valid_ev H.length K s (hs s (List.mem_of_getElem? hsx))
      have hl : H.length < K.length := (List.getElem?_eq_some_iff.1 gK).1
      have gS : ∀ o : AObj, (K.set H.length o)[H.length]? = some o := fun o => List.getElem?_set_self hl
      cases hv : vB s with
      | true =>
        rw [hv] at he hst
        obtain ⟨es, hes⟩ : ∃ es, (ks.take i).map mE = es := ⟨_, rfl⟩
        rw [hes] at gK hf hse
        (iterate 10 ((first | refine W_sq ?_ | refine W_bk ?_ | refine W_ret ?_ | refine W_exit ?_ | refine W_skip ?_ | (apply W_rg; focus (intro _; simp only [evalR,runOps,stepOp,wanted,aop,evx,put,unflag,binV,isShift,AV.elems,AV.unf,AV.int?,D.cells,readD,List.contains,List.elem,z2,z3,z4,z5,z7,z10,z11,z14,z15,Option.map,intD,boolD,reduceIte,z23,forgetT,z26,z29,z42,z51,z52,z55,z62,b_lss, f1, hsx]; (first | done | exact rfl))) | (refine W_cT ?_ ?_; focus (simp only [evx,List.contains,List.elem,z2,z3,AV.unf,reduceIte,z23]; done)) | (refine W_cF ?_ ?_; focus (simp only [evx,List.contains,List.elem,z2,z3,AV.unf,reduceIte,z23,boolD]; done))) <;> (try simp only [seqK])))
        (apply W_drw; focus (refine Evl.call (he) (Evl.all fun k e1 => ?_); simp (maxSteps := 100000000) only [evalR,runOps,stepOp,wanted,aop,evx,put,unflag,unV,AV.unf,List.contains,List.elem,z2,z3,z4,z5,z8,z9,Option.map,boolD,reduceIte,z23,forgetT,z29,z32,gK, hik, hf, e1]; (first | done | exact rfl))) <;> (try simp only [seqK])
        (repeat ((first | refine W_sq ?_ | refine W_bk ?_ | refine W_ret ?_ | refine W_exit ?_ | refine W_skip ?_ | (apply W_rg; focus (intro _; simp only [evalR,runOps,stepOp,wanted,aop,evx,put,unflag,binV,isShift,AV.unf,List.contains,List.elem,z2,z3,z4,z5,Option.map,reduceIte,z23,forgetT,z48,z51,gK, hik, hse, b_add, w1]; (first | done | exact rfl))) | (refine W_cT ?_ ?_; focus (simp only [evx,List.contains,List.elem,z2,z3,AV.unf,reduceIte,z23]; done)) | (refine W_cF ?_ ?_; focus (simp only [evx,List.contains,List.elem,z2,z3,AV.unf,reduceIte,z23]; done))) <;> (try simp only [seqK,blockK,loopK])))
        exact ⟨ks.length - (i + 1), by omega, i + 1, _, t0, rfl, hst, hn2, gS _, ex_st _ _ _ rfl⟩
      | false =>
        rw [hv] at he
        have hno : namedB ks = false := by unfold namedB; rw [all_no hsx hv]; rfl
        rw [hno]
        obtain ⟨es, hes⟩ : ∃ es, (ks.take i).map mE = es := ⟨_, rfl⟩
        rw [hes] at gK hf hse
        (iterate 10 ((first | refine W_sq ?_ | refine W_bk ?_ | refine W_ret ?_ | refine W_exit ?_ | refine W_skip ?_ | (apply W_rg; focus (intro _; simp only [evalR,runOps,stepOp,wanted,aop,evx,put,unflag,binV,isShift,AV.elems,AV.unf,AV.int?,D.cells,readD,List.contains,List.elem,z2,z3,z4,z5,z7,z10,z11,z14,z15,Option.map,intD,boolD,reduceIte,z23,forgetT,z26,z29,z42,z51,z52,z55,z62,b_lss, f1, hsx]; (first | done | exact rfl))) | (refine W_cT ?_ ?_; focus (simp only [evx,List.contains,List.elem,z2,z3,AV.unf,reduceIte,z23]; done)) | (refine W_cF ?_ ?_; focus (simp only [evx,List.contains,List.elem,z2,z3,AV.unf,reduceIte,z23,boolD]; done))) <;> (try simp only [seqK])))
        (apply W_drw; focus (refine Evl.call (he) (Evl.all fun k e1 => ?_); simp (maxSteps := 100000000) only [evalR,runOps,stepOp,wanted,aop,evx,put,unflag,unV,AV.unf,List.contains,List.elem,z2,z3,z4,z5,z8,z9,Option.map,boolD,reduceIte,z23,forgetT,z29,z31,gK, hik, hf, e1]; (first | done | exact rfl))) <;> (try simp only [seqK])
        (repeat ((first | refine W_sq ?_ | refine W_bk ?_ | refine W_ret ?_ | refine W_exit ?_ | refine W_skip ?_ | (apply W_rg; focus (intro _; simp only [evalR,runOps,stepOp,wanted,aop,evx,put,unflag,z4,z5,forgetT]; (first | done | exact rfl))) | (refine W_cT ?_ ?_; focus (simp only [evx,List.contains,List.elem,z2,z3,AV.unf,reduceIte,z23]; done)) | (refine W_cF ?_ ?_; focus (simp only [evx,List.contains,List.elem,z2,z3,AV.unf,reduceIte,z23,boolD]; done))) <;> (try simp only [seqK,blockK,loopK])))
        exact ans_cut rfl rfl ⟨rfl, rfl⟩
  · obtain rfl : i = ks.length := by omega
    have f1 : ((ks.length : Int) < (ks.length : Int)) = False := eq_false (by omega)
    rw [List.take_length] at ha hnd
    have : namedB ks = true := by unfold namedB; rw [ha, decide_eq_true hnd]; rfl
    rw [this]
    (repeat ((first | refine W_sq ?_ | refine W_bk ?_ | refine W_ret ?_ | refine W_exit ?_ | refine W_skip ?_ | (apply W_rg; focus (intro _; simp only [evalR,runOps,stepOp,wanted,aop,evx,put,unflag,binV,isShift,AV.unf,List.contains,List.elem,z2,z3,z4,z5,Option.map,intD,boolD,reduceIte,z23,forgetT,z43,b_lss, f1]; (first | done | exact rfl))) | (refine W_cT ?_ ?_; focus (simp only [evx,List.contains,List.elem,z2,z3,AV.unf,reduceIte,z23]; done)) | (refine W_cF ?_ ?_; focus (simp only [evx,List.contains,List.elem,z2,z3,AV.unf,reduceIte,z23]; done))) <;> (try simp only [seqK,blockK,loopK,reduceIte])))
    exact ans_cut rfl rfl ⟨rfl, rfl⟩

set_option maxHeartbeats 1000000 in
--
theorem shape_ev (lim : Nat) (H : AHeap) (j : J) (hj : Sh j) : Ev X 58 lim [.d j.d] H (boolD (shapedB j)) H := by
  refine Fn.ev ?_
  refine Fn_of rfl (show code 58 = some c58 from rfl) rfl ?_; simp only [List.length_cons, List.length_nil, Nat.reduceAdd, Nat.reduceSub, List.reduceReplicate, List.cons_append, List.nil_append, reduceIte, Bool.false_eq_true]
  obtain ⟨s1, s2, s3, s4⟩ := hj
  obtain ⟨K, hK⟩ : ∃ K, H ++ [AObj.cells (jC j)] = K := ⟨_, rfl⟩
  have gK : K[H.length]? = some (.cells (jC j)) := by rw [← hK]; exact get_last _ _
  have hjd := jd j
  have w0 : IntKind.i64.wrap ((j.ks.length : Int) + (j.l.length : Int)) = ((j.ks.length + j.l.length : Nat) : Int) := by rw [w64 (by omega) (by omega)]; omega
  have eE : (((j.ks.length + j.l.length : Nat) : Int) == 0) = emptyB j := by rw [eq0]; exact decide_eq_decide.2 (by omega)
  have eN := eq0 j.n 0
  have eN1 := eq0 j.n 1
  have eT := eqT j.t []
  have hr : shapedB j = if j.k = 0 then emptyB j && decide (j.n = 0) && decide (j.t = [])
    else if j.k = 1 then emptyB j && decide (j.t = []) && (decide (j.n = 0) || decide (j.n = 1))
    else if j.k = 2 then emptyB j && decide (j.t = []) && decide (-9007199254740991 ≤ j.n) && decide (j.n ≤ 9007199254740991)
    else if j.k = 3 then emptyB j && decide (j.n = 0) && vB j.t
    else if j.k = 4 then decide (j.ks.length = 0) && decide (j.n = 0) && decide (j.t = [])
    else if j.k = 5 then decide (j.ks.length = j.l.length) && decide (j.n = 0) && decide (j.t = []) && namedB j.ks
    else false := rfl
  rw [hr]
  (iterate 2 ((first | refine W_sq ?_ | refine W_bk ?_ | refine W_ret ?_ | refine W_exit ?_ | refine W_skip ?_ | (apply W_rg; focus (intro _; simp only [evalR,runOps,stepOp,wanted,aop,evx,put,unflag,AV.unf,AV.cells,D.cells,AV.isCell,D.isCell,List.contains,List.elem,z3,z4,z5,z8,z9,z18,z19,reduceIte,z23,forgetT,z34,hjd, hK]; (first | done | exact rfl))) | (refine W_cT ?_ ?_; focus (simp only [evx,List.contains,List.elem,z2,z3,AV.unf,reduceIte,z23,boolD]; done)) | (refine W_cF ?_ ?_; focus (simp only [evx,List.contains,List.elem,z2,z3,AV.unf,reduceIte,z23,boolD]; done))) <;> (try simp only [seqK])))
  (iterate 4 ((first | refine W_sq ?_ | refine W_bk ?_ | refine W_ret ?_ | refine W_exit ?_ | refine W_skip ?_ | (apply W_rg; focus (intro _; simp only [evalR,runOps,stepOp,wanted,aop,evx,put,unflag,binV,isShift,AV.elems,AV.unf,AV.mkAgg,AV.pures,readCells,List.contains,List.elem,z2,z3,z4,z5,z6,z7,z8,z9,z10,z11,z12,z13,z14,z15,Option.map,intD,reduceIte,z23,forgetT,Nat.reduceAdd,Nat.reduceLeDiff,z26,z29,z51,gK, b_add, b_eql, w0, eE, List.length_map]; (first | done | exact rfl))) | (refine W_cT ?_ ?_; focus (simp only [evx,List.contains,List.elem,z2,z3,AV.unf,reduceIte,z23,boolD]; done)) | (refine W_cF ?_ ?_; focus (simp only [evx,List.contains,List.elem,z2,z3,AV.unf,reduceIte,z23,boolD]; done))) <;> (try simp only [seqK])))
  have k0e := eq0 j.k 0
  have k1e := eq0 j.k 1
  have k2e := eq0 j.k 2
  have k3e := eq0 j.k 3
  have k4e := eq0 j.k 4
  have k5e := eq0 j.k 5
  by_cases k0 : j.k = 0
  · rw [if_pos k0]
    rw [decide_eq_true k0] at k0e
    generalize emptyB j = b1 at *
    generalize decide (j.n = 0) = b2 at *
    generalize decide (j.t = []) = b3 at *
    cases b1 <;> cases b2 <;> cases b3 <;> ((repeat ((first | refine W_sq ?_ | refine W_bk ?_ | refine W_ret ?_ | refine W_exit ?_ | refine W_skip ?_ | (apply W_rg; focus (intro _; simp only [evalR,runOps,stepOp,wanted,aop,evx,put,unflag,binV,isShift,binStr,AV.unf,AV.mkAgg,AV.pures,readCells,List.contains,List.elem,z2,z3,z4,z5,z6,z7,z8,z9,z10,z11,z12,z13,z14,z15,Option.map,reduceIte,z23,forgetT,Nat.reduceAdd,Nat.reduceLeDiff,z25,z26,z29,z32,z45,gK, b_eql, k0e, eN, eT]; (first | done | exact rfl))) | (refine W_cT ?_ ?_; focus (simp only [evx,List.contains,List.elem,z2,z3,AV.unf,reduceIte,z23]; done)) | (refine W_cF ?_ ?_; focus (simp only [evx,List.contains,List.elem,z2,z3,AV.unf,reduceIte,z23,boolD]; done))) <;> (try simp only [seqK,blockK]))); exact ans_cut rfl rfl ⟨rfl, rfl⟩)
  rw [if_neg k0]
  rw [decide_eq_false k0] at k0e
  by_cases k1 : j.k = 1
  · rw [if_pos k1]
    rw [decide_eq_true k1] at k1e
    generalize emptyB j = b1 at *
    generalize decide (j.n = 0) = b2 at *
    generalize decide (j.n = 1) = b4 at *
    generalize decide (j.t = []) = b3 at *
    cases b1 <;> cases b2 <;> cases b3 <;> cases b4 <;> ((repeat ((first | refine W_sq ?_ | refine W_bk ?_ | refine W_ret ?_ | refine W_exit ?_ | refine W_skip ?_ | (apply W_rg; focus (intro _; simp only [evalR,runOps,stepOp,wanted,aop,evx,put,unflag,binV,isShift,binStr,AV.unf,AV.mkAgg,AV.pures,readCells,List.contains,List.elem,z2,z3,z4,z5,z6,z7,z8,z9,z10,z11,z12,z13,z14,z15,Option.map,reduceIte,z23,forgetT,Nat.reduceAdd,Nat.reduceLeDiff,z25,z26,z29,z32,z44,z45,gK, b_eql, k0e, k1e, eN, eN1, eT]; (first | done | exact rfl))) | (refine W_cT ?_ ?_; focus (simp only [evx,List.contains,List.elem,z2,z3,AV.unf,reduceIte,z23]; done)) | (refine W_cF ?_ ?_; focus (simp only [evx,List.contains,List.elem,z2,z3,AV.unf,reduceIte,z23]; done))) <;> (try simp only [seqK,blockK]))); exact ans_cut rfl rfl ⟨rfl, rfl⟩)
  rw [if_neg k1]
  rw [decide_eq_false k1] at k1e
  by_cases k2 : j.k = 2
  · rw [if_pos k2]
    rw [decide_eq_true k2] at k2e
    generalize emptyB j = b1 at *
    generalize decide (j.t = []) = b3 at *
    by_cases h2 : -9007199254740991 ≤ j.n
    · have f2 : (-9007199254740991 ≤ j.n) = True := eq_true h2
      rw [decide_eq_true h2]
      by_cases h4 : j.n ≤ 9007199254740991
      · have f4 : (j.n ≤ 9007199254740991) = True := eq_true h4
        rw [decide_eq_true h4]
        cases b1 <;> cases b3 <;> ((repeat ((first | refine W_sq ?_ | refine W_bk ?_ | refine W_ret ?_ | refine W_exit ?_ | refine W_skip ?_ | (apply W_rg; focus (intro _; simp only [evalR,runOps,stepOp,wanted,aop,evx,put,unflag,binV,isShift,binStr,AV.unf,AV.mkAgg,AV.pures,readCells,List.contains,List.elem,z2,z3,z4,z5,z6,z7,z8,z9,z10,z11,z12,z13,z14,z15,Option.map,reduceIte,z23,forgetT,Nat.reduceAdd,Nat.reduceLeDiff,z25,z26,z29,z32,z42,z45,gK, b_eql, b_leq, k0e, k1e, k2e, f2, f4, eT]; (first | done | exact rfl))) | (refine W_cT ?_ ?_; focus (simp only [evx,List.contains,List.elem,z2,z3,AV.unf,reduceIte,z23]; done)) | (refine W_cF ?_ ?_; focus (simp only [evx,List.contains,List.elem,z2,z3,AV.unf,reduceIte,z23]; done))) <;> (try simp only [seqK,blockK]))); exact ans_cut rfl rfl ⟨rfl, rfl⟩)
      · have f4 : (j.n ≤ 9007199254740991) = False := eq_false h4
        rw [decide_eq_false h4]
        cases b1 <;> cases b3 <;> ((repeat ((first | refine W_sq ?_ | refine W_bk ?_ | refine W_ret ?_ | refine W_exit ?_ | refine W_skip ?_ | (apply W_rg; focus (intro _; simp only [evalR,runOps,stepOp,wanted,aop,evx,put,unflag,binV,isShift,binStr,AV.unf,AV.mkAgg,AV.pures,readCells,List.contains,List.elem,z2,z3,z4,z5,z6,z7,z8,z9,z10,z11,z12,z13,z14,z15,Option.map,reduceIte,z23,forgetT,Nat.reduceAdd,Nat.reduceLeDiff,z25,z26,z29,z32,z42,z43,z45,gK, b_eql, b_leq, k0e, k1e, k2e, f2, f4, eT]; (first | done | exact rfl))) | (refine W_cT ?_ ?_; focus (simp only [evx,List.contains,List.elem,z2,z3,AV.unf,reduceIte,z23]; done)) | (refine W_cF ?_ ?_; focus (simp only [evx,List.contains,List.elem,z2,z3,AV.unf,reduceIte,z23]; done))) <;> (try simp only [seqK,blockK]))); exact ans_cut rfl rfl ⟨rfl, rfl⟩)
    · have f2 : (-9007199254740991 ≤ j.n) = False := eq_false h2
      rw [decide_eq_false h2]
      generalize decide (j.n ≤ 9007199254740991) = b4
      cases b1 <;> cases b3 <;> cases b4 <;> ((repeat ((first | refine W_sq ?_ | refine W_bk ?_ | refine W_ret ?_ | refine W_exit ?_ | refine W_skip ?_ | (apply W_rg; focus (intro _; simp only [evalR,runOps,stepOp,wanted,aop,evx,put,unflag,binV,isShift,binStr,AV.unf,AV.mkAgg,AV.pures,readCells,List.contains,List.elem,z2,z3,z4,z5,z6,z7,z8,z9,z10,z11,z12,z13,z14,z15,Option.map,reduceIte,z23,forgetT,Nat.reduceAdd,Nat.reduceLeDiff,z25,z26,z29,z32,z43,z45,gK, b_eql, b_leq, k0e, k1e, k2e, f2, eT]; (first | done | exact rfl))) | (refine W_cT ?_ ?_; focus (simp only [evx,List.contains,List.elem,z2,z3,AV.unf,reduceIte,z23]; done)) | (refine W_cF ?_ ?_; focus (simp only [evx,List.contains,List.elem,z2,z3,AV.unf,reduceIte,z23]; done))) <;> (try simp only [seqK,blockK]))); exact ans_cut rfl rfl ⟨rfl, rfl⟩)
  rw [if_neg k2]
  rw [decide_eq_false k2] at k2e
  by_cases k3 : j.k = 3
  · rw [if_pos k3]
    rw [decide_eq_true k3] at k3e
    have he := valid_ev H.length K j.t s1
    generalize emptyB j = b1 at *
    generalize decide (j.n = 0) = b2 at *
    generalize vB j.t = b3 at *
    (iterate 15 ((first | refine W_sq ?_ | refine W_bk ?_ | refine W_ret ?_ | refine W_exit ?_ | refine W_skip ?_ | (apply W_rg; focus (intro _; simp only [evalR,runOps,stepOp,wanted,aop,evx,put,unflag,binV,isShift,AV.unf,AV.mkAgg,AV.pures,readCells,List.contains,List.elem,z2,z3,z4,z5,z7,z8,z9,z10,z11,z13,z14,z15,Option.map,reduceIte,z23,forgetT,Nat.reduceAdd,Nat.reduceLeDiff,z25,z26,z29,gK, b_eql, k0e, k1e, k2e, k3e]; (first | done | exact rfl))) | (refine W_cT ?_ ?_; focus (simp only [evx,List.contains,List.elem,z2,z3,AV.unf,reduceIte,z23]; done)) | (refine W_cF ?_ ?_; focus (simp only [evx,List.contains,List.elem,z2,z3,AV.unf,reduceIte,z23]; done))) <;> (try simp only [seqK])))
    cases b1 <;> cases b2 <;> cases b3 <;> ((apply W_drw; focus (refine Evl.call (he) (Evl.all fun k e1 => ?_); simp (maxSteps := 100000000) only [evalR,runOps,stepOp,wanted,aop,evx,put,unflag,binV,isShift,AV.unf,AV.mkAgg,AV.pures,readCells,List.contains,List.elem,z2,z3,z4,z5,z6,z7,z8,z9,z10,z11,z12,z13,z14,z15,Option.map,boolD,reduceIte,z23,forgetT,Nat.reduceAdd,Nat.reduceLeDiff,z26,z29,z32,z45,gK, b_eql, eN, e1]; (first | done | exact rfl))) <;> (try simp only [seqK]); (repeat ((first | refine W_sq ?_ | refine W_bk ?_ | refine W_ret ?_ | refine W_exit ?_ | refine W_skip ?_ | (apply W_rg; focus (intro _; simp only [z0,srcC,AV.growable,AV.owned,evalC,evalR,runOps,stepOp,wanted,aop,evx,put,unflag,binV,nilEq,isShift,binStr,unV,AV.elems,AV.unf,AV.int?,AV.toD,AV.toDs,AV.mkAgg,AV.pures,AV.cells,D.cells,AV.isCell,D.isCell,readCells,readD,optInt,fill,splice,srcOf,z1,List.contains,List.elem,z2,z3,z4,z5,z6,z7,z8,z9,z10,z11,z12,z13,z14,z15,z16,z17,z18,z19,z20,z21,z22,Option.map,intD,boolD,bD,reduceIte,z23,z24,forgetT,Nat.reduceAdd,Nat.reduceLeDiff,Nat.reduceMul,Nat.reduceSub,Nat.reduceEqDiff,Nat.reduceBEq,Nat.reduceBNe,z25,z26,z27,z28,z29,z30,z31,z32,z33,z34,z35,z36,z37,z38,z39,z40,z41,z42,z43,z44,z45,z46,z47,z48,z49,z50,z51,z52,Int.reduceToNat,z53,z54,z55,z56,z57,z58,Int.reduceBEq,Int.reduceBNe,Int.reduceLT,Int.reduceLE,Int.reduceGT,Int.reduceGE,Int.reduceEq,z59,z60,z61,z62,List.reduceReplicate,z63,z64,z65,z66,z67,chunks]; (first | done | exact rfl))) | (refine W_cT ?_ ?_; focus (simp only [evx,List.contains,List.elem,z2,z3,AV.unf,reduceIte,z23,boolD]; done)) | (refine W_cF ?_ ?_; focus (simp only [evx,List.contains,List.elem,z2,z3,AV.unf,reduceIte,z23,boolD]; done))) <;> (try simp only [seqK,blockK]))); exact ans_cut rfl rfl ⟨rfl, rfl⟩)
  rw [if_neg k3]
  rw [decide_eq_false k3] at k3e
  by_cases k4 : j.k = 4
  · rw [if_pos k4]
    rw [decide_eq_true k4] at k4e
    have eE4 : ((j.ks.length : Int) == 0) = decide (j.ks.length = 0) := by rw [eq0]; exact decide_eq_decide.2 (by omega)
    generalize decide (j.ks.length = 0) = b1 at *
    generalize decide (j.n = 0) = b2 at *
    generalize decide (j.t = []) = b3 at *
    cases b1 <;> cases b2 <;> cases b3 <;> ((repeat ((first | refine W_sq ?_ | refine W_bk ?_ | refine W_ret ?_ | refine W_exit ?_ | refine W_skip ?_ | (apply W_rg; focus (intro _; simp only [evalR,runOps,stepOp,wanted,aop,evx,put,unflag,binV,isShift,binStr,AV.elems,AV.unf,AV.mkAgg,AV.pures,readCells,List.contains,List.elem,z2,z3,z4,z5,z6,z7,z8,z9,z10,z11,z12,z13,z14,z15,Option.map,intD,reduceIte,z23,forgetT,Nat.reduceAdd,Nat.reduceLeDiff,z25,z26,z29,z32,z45,gK, b_eql, k0e, k1e, k2e, k3e, k4e, eN, eT, eE4, List.length_map]; (first | done | exact rfl))) | (refine W_cT ?_ ?_; focus (simp only [evx,List.contains,List.elem,z2,z3,AV.unf,reduceIte,z23]; done)) | (refine W_cF ?_ ?_; focus (simp only [evx,List.contains,List.elem,z2,z3,AV.unf,reduceIte,z23]; done))) <;> (try simp only [seqK,blockK]))); exact ans_cut rfl rfl ⟨rfl, rfl⟩)
  rw [if_neg k4]
  rw [decide_eq_false k4] at k4e
  by_cases k5 : j.k = 5
  · rw [if_pos k5]
    rw [decide_eq_true k5] at k5e
    have he := named_ev H.length K j.ks s2 s4
    have eE5 : ((j.ks.length : Int) == (j.l.length : Int)) = decide (j.ks.length = j.l.length) := by rw [eq0]; exact decide_eq_decide.2 (by omega)
    generalize decide (j.ks.length = j.l.length) = b1 at *
    generalize decide (j.n = 0) = b2 at *
    generalize decide (j.t = []) = b3 at *
    generalize namedB j.ks = b4 at *
    (iterate 21 ((first | refine W_sq ?_ | refine W_bk ?_ | refine W_ret ?_ | refine W_exit ?_ | refine W_skip ?_ | (apply W_rg; focus (intro _; simp only [evalR,runOps,stepOp,wanted,aop,evx,put,unflag,binV,isShift,AV.unf,AV.mkAgg,AV.pures,readCells,List.contains,List.elem,z2,z3,z4,z5,z7,z8,z9,z10,z11,z13,z14,z15,Option.map,reduceIte,z23,forgetT,Nat.reduceAdd,Nat.reduceLeDiff,z25,z26,z29,gK, b_eql, k0e, k1e, k2e, k3e, k4e, k5e]; (first | done | exact rfl))) | (refine W_cT ?_ ?_; focus (simp only [evx,List.contains,List.elem,z2,z3,AV.unf,reduceIte,z23]; done)) | (refine W_cF ?_ ?_; focus (simp only [evx,List.contains,List.elem,z2,z3,AV.unf,reduceIte,z23]; done))) <;> (try simp only [seqK])))
    cases b1 <;> cases b2 <;> cases b3 <;> cases b4 <;> ((apply W_drw; focus (refine Evl.call (he) (Evl.all fun k e1 => ?_); simp (maxSteps := 100000000) only [evalR,runOps,stepOp,wanted,aop,evx,put,unflag,binV,isShift,binStr,AV.elems,AV.unf,AV.mkAgg,AV.pures,readCells,List.contains,List.elem,z2,z3,z4,z5,z6,z7,z8,z9,z10,z11,z12,z13,z14,z15,Option.map,intD,boolD,reduceIte,z23,forgetT,Nat.reduceAdd,Nat.reduceLeDiff,z26,z29,z32,z45,z51,gK, b_eql, eN, eT, eE5, List.length_map, e1]; (first | done | exact rfl))) <;> (try simp only [seqK]); (repeat ((first | refine W_sq ?_ | refine W_bk ?_ | refine W_ret ?_ | refine W_exit ?_ | refine W_skip ?_ | (apply W_rg; focus (intro _; simp only [z0,srcC,AV.growable,AV.owned,evalC,evalR,runOps,stepOp,wanted,aop,evx,put,unflag,binV,nilEq,isShift,binStr,unV,AV.elems,AV.unf,AV.int?,AV.toD,AV.toDs,AV.mkAgg,AV.pures,AV.cells,D.cells,AV.isCell,D.isCell,readCells,readD,optInt,fill,splice,srcOf,z1,List.contains,List.elem,z2,z3,z4,z5,z6,z7,z8,z9,z10,z11,z12,z13,z14,z15,z16,z17,z18,z19,z20,z21,z22,Option.map,intD,boolD,bD,reduceIte,z23,z24,forgetT,Nat.reduceAdd,Nat.reduceLeDiff,Nat.reduceMul,Nat.reduceSub,Nat.reduceEqDiff,Nat.reduceBEq,Nat.reduceBNe,z25,z26,z27,z28,z29,z30,z31,z32,z33,z34,z35,z36,z37,z38,z39,z40,z41,z42,z43,z44,z45,z46,z47,z48,z49,z50,z51,z52,Int.reduceToNat,z53,z54,z55,z56,z57,z58,Int.reduceBEq,Int.reduceBNe,Int.reduceLT,Int.reduceLE,Int.reduceGT,Int.reduceGE,Int.reduceEq,z59,z60,z61,z62,List.reduceReplicate,z63,z64,z65,z66,z67,chunks]; (first | done | exact rfl))) | (refine W_cT ?_ ?_; focus (simp only [evx,List.contains,List.elem,z2,z3,AV.unf,reduceIte,z23,boolD]; done)) | (refine W_cF ?_ ?_; focus (simp only [evx,List.contains,List.elem,z2,z3,AV.unf,reduceIte,z23,boolD]; done))) <;> (try simp only [seqK,blockK]))); exact ans_cut rfl rfl ⟨rfl, rfl⟩)
  rw [if_neg k5]
  rw [decide_eq_false k5] at k5e
  (repeat ((first | refine W_sq ?_ | refine W_bk ?_ | refine W_ret ?_ | refine W_exit ?_ | refine W_skip ?_ | (apply W_rg; focus (intro _; simp only [evalR,runOps,stepOp,wanted,aop,evx,put,unflag,binV,isShift,AV.unf,AV.mkAgg,AV.pures,readCells,List.contains,List.elem,z2,z3,z4,z5,z7,z8,z9,z10,z11,z13,z14,z15,Option.map,reduceIte,z23,forgetT,Nat.reduceAdd,Nat.reduceLeDiff,z25,z26,z29,gK, b_eql, k0e, k1e, k2e, k3e, k4e, k5e]; (first | done | exact rfl))) | (refine W_cT ?_ ?_; focus (simp only [evx,List.contains,List.elem,z2,z3,AV.unf,reduceIte,z23]; done)) | (refine W_cF ?_ ?_; focus (simp only [evx,List.contains,List.elem,z2,z3,AV.unf,reduceIte,z23]; done))) <;> (try simp only [seqK,blockK])))
  exact ans_cut rfl rfl ⟨rfl, rfl⟩

end Go.Proofs.YtoimlfaiibadgaaDoor
