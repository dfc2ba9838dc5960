/- A filter's content, as the document has it, walked. (NOBIN: the arithmetic of numbers is not unfolded.) -/
import Derived.Test.YtoimlfaiibadgaaDoordW24
set_option linter.unusedSimpArgs false
set_option linter.unusedVariables false
set_option linter.all false
set_option maxRecDepth 100000
namespace Go.Proofs.YtoimlfaiibadgaaDoor
open Go Go.Abs Go.Lib

/-- A map under way: none yet, or plain. -/
def MC (ps : List (Tx × J)) (cs : List AV) : Prop :=
  cs = [.d (.int .i64 5), .d (.int .i64 0), .d (.str []), .d (.slice (kD ps)), .d (.slice (vD ps))] ∨ (ps = [] ∧ cs = [.d (.int .i64 5), .d (.int .i64 0), .d (.str []), .fslice [], .fslice []])

def contentV (o : Option J) : AV := match o with
  | some j => .tuple [.d j.d, intD 0]
  | none => .tuple [.d J.zero.d, intD 1]

theorem row_bd {l : List Tx} (h1 : l.length ≤ 200) (h2 : ∀ s ∈ l, s.length ≤ 500) : Bd 2 (rowJ l) := by
  refine ⟨by simp [rowJ, J.t], by simp [rowJ, J.ks], by simpa [rowJ, J.l] using h1, by simp [rowJ, J.ks], ?_⟩
  intro x hx
  unfold rowJ J.l at hx
  obtain ⟨s, hs, rfl⟩ := List.mem_map.1 hx
  exact ⟨h2 s hs, by simp [J.ks], by simp [J.l], by simp [J.ks], by simp [J.l]⟩

theorem num_bd (n : Int) : Bd 2 (numJ n) := ⟨by simp [numJ, J.t], by simp [numJ, J.ks], by simp [numJ, J.l], by simp [numJ, J.ks], by simp [numJ, J.l]⟩

theorem pair_len (key : Tx) (l : List Tx) : (pairJ key l).length ≤ 1 := by unfold pairJ; split <;> simp
theorem lim_len (n : Int) : (if n = 0 then [] else [(kLim, numJ n)] : List (Tx × J)).length ≤ 1 := by split <;> simp

theorem raw_bd {f : Fl} (hf : fewB f = true) : Bd 3 (mapJ (pairsJ f)) := by
  obtain ⟨q1, q2, q3, q4⟩ := few_all hf
  have s1 := short_all q1
  have s2 := short_all q2
  have s3 := short_all q3
  have s4 := short_all q4
  have hlen : (pairsJ f).length ≤ 5 := by
    unfold pairsJ
    simp only [List.length_append]
    have := lim_len f.lim
    have := pair_len kNs f.nsn
    have := pair_len kNt f.nty
    have := pair_len kS f.sn
    have := pair_len kT f.ty
    omega
  have hrow : ∀ key l, l.length ≤ 20 → (∀ s ∈ l, s.length ≤ 100) → ∀ p ∈ pairJ key l, Bd 2 p.2 := fun key l h1 h2 p hp => by
    unfold pairJ at hp
    split at hp
    · cases hp
    · rw [List.mem_singleton] at hp; rw [hp]
      exact row_bd (by omega) fun s hs => by have := h2 s hs; omega
  refine ⟨by simp [mapJ, J.t], by simp only [mapJ, J.ks, List.length_map]; omega, by simp only [mapJ, J.l, List.length_map]; omega, ?_, ?_⟩
  · intro s hs
    have := (keys_sub f).subset hs
    simp only [List.mem_cons, List.not_mem_nil, or_false] at this
    rcases this with h | h | h | h | h <;> rw [h] <;> decide
  · intro x hx
    unfold mapJ J.l at hx
    obtain ⟨p, hp, rfl⟩ := List.mem_map.1 hx
    unfold pairsJ at hp
    simp only [List.mem_append] at hp
    rcases hp with (((hp | hp) | hp) | hp) | hp
    · split at hp
      · cases hp
      · rw [List.mem_singleton] at hp; rw [hp]; exact num_bd _
    · exact hrow _ _ s4.1 s4.2 p hp
    · exact hrow _ _ s2.1 s2.2 p hp
    · exact hrow _ _ s3.1 s3.2 p hp
    · exact hrow _ _ s1.1 s1.2 p hp

theorem kv_nil : kD [] = [] ∧ vD [] = [] := ⟨rfl, rfl⟩

set_option maxHeartbeats 4000000 in
--
theorem ContentR_ev (lim : Nat) (H : AHeap) (f : Fl) (hf : fewB f = true) : Ev X 13 lim [.d (flD f)] H (contentV (contentJ f)) H := by
  refine Fn.ev ?_
  refine Fn_of rfl (show code 13 = some c13 from rfl) rfl ?_; simp only [List.length_cons, List.length_nil, Nat.reduceAdd, Nat.reduceSub, List.reduceReplicate, List.cons_append, List.nil_append, reduceIte, Bool.false_eq_true]
  obtain ⟨J1, hJ1⟩ : ∃ J1, H ++ [AObj.cells (flC f)] = J1 := ⟨_, rfl⟩
  obtain ⟨J2, hJ2⟩ : ∃ J2, J1 ++ [AObj.cells zC] = J2 := ⟨_, rfl⟩
  have l1 : J1.length = H.length + 1 := by rw [← hJ1]; simp
  have l2 : J2.length = H.length + 2 := by rw [← hJ2]; simp [l1]
  have ge1 : H.length ≤ J1.length := by omega
  have ge2 : H.length ≤ J2.length := by omega
  have gF : ∀ o, (J2 ++ [o])[H.length]? = some (.cells (flC f)) := fun o => get_more o (by rw [← hJ2, ← hJ1]; exact get_more _ (get_last _ _))
  have gR : ∀ o, (J2 ++ [o])[J1.length]? = some (.cells zC) := fun o => get_more o (by rw [← hJ2]; exact get_last _ _)
  obtain ⟨q1, q2, q3, q4⟩ := few_all hf
  have s1 := short_all q1
  have s2 := short_all q2
  have s3 := short_all q3
  have s4 := short_all q4
  (iterate 2 ((first | refine W_sq ?_ | refine W_bk ?_ | refine W_ret ?_ | refine W_exit ?_ | refine W_skip ?_ | (apply W_rg; focus (intro _; simp only [evalR,runOps,stepOp,wanted,aop,evx,put,unflag,AV.unf,AV.cells,D.cells,AV.isCell,D.isCell,List.contains,List.elem,z3,z4,z5,z8,z9,z18,z19,reduceIte,z23,forgetT,z34,flD, hJ1, hJ2]; (first | done | exact rfl))) | (refine W_cT ?_ ?_; focus (simp only [evx,List.contains,List.elem,z2,z3,AV.unf,reduceIte,z23,boolD]; done)) | (refine W_cF ?_ ?_; focus (simp only [evx,List.contains,List.elem,z2,z3,AV.unf,reduceIte,z23,boolD]; done))) <;> (try simp only [seqK])))
  (iterate 2 ((first | refine W_sq ?_ | refine W_bk ?_ | refine W_ret ?_ | refine W_exit ?_ | refine W_skip ?_ | (apply W_rg; focus (intro _; simp only [evalR,runOps,stepOp,wanted,aop,evx,put,unflag,AV.unf,AV.mkAgg,AV.pures,AV.cells,D.cells,AV.isCell,D.isCell,fill,splice,List.contains,List.elem,z2,z3,z4,z5,z8,z9,z11,z12,z13,z14,z15,z18,z19,z20,z21,z22,Option.map,reduceIte,z23,forgetT,Nat.reduceAdd,Nat.reduceLeDiff,Nat.reduceBEq,z26,z29,z34,z46,z47,z48,z51,ge2]; (first | done | exact rfl))) | (refine W_cT ?_ ?_; focus (simp only [evx,List.contains,List.elem,z2,z3,AV.unf,reduceIte,z23,boolD]; done)) | (refine W_cF ?_ ?_; focus (simp only [evx,List.contains,List.elem,z2,z3,AV.unf,reduceIte,z23,boolD]; done))) <;> (try simp only [seqK])))
  have hm0 : MC [] [.d (.int .i64 5), .d (.int .i64 0), .d (.str []), .fslice [], .fslice []] := .inr ⟨rfl, rfl⟩
  obtain ⟨PS1, hPS1⟩ : ∃ q, (if f.lim = 0 then [] else [(kLim, numJ f.lim)] : List (Tx × J)) = q := ⟨_, rfl⟩
  have hn1 : PS1.length ≤ 1 := by rw [← hPS1]; exact lim_len _
  obtain ⟨PS2, hPS2⟩ : ∃ q, PS1 ++ pairJ kNs f.nsn = q := ⟨_, rfl⟩
  have hn2 : PS2.length ≤ 2 := by rw [← hPS2, List.length_append]; have := pair_len kNs f.nsn; omega
  obtain ⟨PS3, hPS3⟩ : ∃ q, PS2 ++ pairJ kNt f.nty = q := ⟨_, rfl⟩
  have hn3 : PS3.length ≤ 3 := by rw [← hPS3, List.length_append]; have := pair_len kNt f.nty; omega
  obtain ⟨PS4, hPS4⟩ : ∃ q, PS3 ++ pairJ kS f.sn = q := ⟨_, rfl⟩
  have hn4 : PS4.length ≤ 4 := by rw [← hPS4, List.length_append]; have := pair_len kS f.sn; omega
  obtain ⟨PS5, hPS5⟩ : ∃ q, PS4 ++ pairJ kT f.ty = q := ⟨_, rfl⟩
  have hn5 : PS5.length ≤ 5 := by rw [← hPS5, List.length_append]; have := pair_len kT f.ty; omega
  have hall : pairsJ f = PS5 := by rw [← hPS5, ← hPS4, ← hPS3, ← hPS2, ← hPS1]; rfl
  refine W_mid (fun st => ∃ cs, MC PS1 cs ∧ ∃ x : Nat → AV, st = ⟨[x 0, x 1, x 2, x 3, x 4, x 5, x 6, .ptr J1.length 0, intD 0, .ptr H.length 0, .ptr J2.length 0, x 11, x 12, x 13, x 14], J2 ++ [AObj.cells cs]⟩) ?_ ?_
  · by_cases h0 : f.lim = 0
    · have f1 : (f.lim != 0) = false := by rw [h0]; rfl
      have e0 : PS1 = [] := by rw [← hPS1, if_pos h0]
      (repeat ((first | refine W_sq ?_ | refine W_bk ?_ | refine W_ret ?_ | refine W_exit ?_ | refine W_skip ?_ | (apply W_rg; focus (intro _; simp only [evalR,runOps,stepOp,wanted,aop,evx,put,unflag,binV,isShift,AV.unf,AV.mkAgg,AV.pures,readCells,List.contains,List.elem,z2,z3,z4,z5,z6,z7,z8,z9,z10,z11,z12,z13,z14,z15,Option.map,reduceIte,z23,forgetT,Nat.reduceAdd,z26,z51,gF, b_neq, f1]; (first | done | exact rfl))) | (refine W_cT ?_ ?_; focus (simp only [evx,List.contains,List.elem,z2,z3,AV.unf,reduceIte,z23]; done)) | (refine W_cF ?_ ?_; focus (simp only [evx,List.contains,List.elem,z2,z3,AV.unf,reduceIte,z23]; done))) <;> (try simp only [seqK,onlyK])))
      exact ⟨_, e0 ▸ hm0, ex_st _ _ _ rfl⟩
    · have f1 : (f.lim != 0) = true := by simpa using h0
      have e0 : PS1 = [] ++ [(kLim, numJ f.lim)] := by rw [← hPS1, if_neg h0]; rfl
      have e1 := fun M => Num_ev H.length M f.lim
      have e2 := fun M => PutM_ev H.length M ([] : List (Tx × J)) kLim (numJ f.lim) (by simp)
      simp only [← e0] at e2
      (iterate 3 ((first | refine W_sq ?_ | refine W_bk ?_ | refine W_ret ?_ | refine W_exit ?_ | refine W_skip ?_ | (apply W_rg; focus (intro _; simp only [evalR,runOps,stepOp,wanted,aop,evx,put,unflag,binV,isShift,AV.unf,AV.mkAgg,AV.pures,readCells,List.contains,List.elem,z2,z3,z4,z5,z6,z7,z8,z9,z10,z11,z12,z13,z14,z15,Option.map,reduceIte,z23,forgetT,Nat.reduceAdd,z26,z51,gF, b_neq, f1]; (first | done | exact rfl))) | (refine W_cT ?_ ?_; focus (simp only [evx,List.contains,List.elem,z2,z3,AV.unf,reduceIte,z23]; done)) | (refine W_cF ?_ ?_; focus (simp only [evx,List.contains,List.elem,z2,z3,AV.unf,reduceIte,z23,boolD]; done))) <;> (try simp only [seqK])))
      simp only [kv_nil] at e2
      (apply W_drw; focus (refine Evl.call ((e1 (J2 ++ [AObj.cells [.d (.int .i64 5), .d (.int .i64 0), .d (.str []), .fslice [], .fslice []]]))) (Evl.call ((e2 (J2 ++ [AObj.cells [.d (.int .i64 5), .d (.int .i64 0), .d (.str []), .fslice [], .fslice []]]))) (Evl.all fun k e2 e1 => ?_)); simp (maxSteps := 100000000) only [srcC,AV.growable,AV.owned,evalR,wanted,aop,evx,put,unflag,binV,nilEq,isShift,binStr,unV,AV.elems,AV.unf,AV.int?,AV.mkAgg,AV.pures,AV.cells,D.cells,AV.isCell,D.isCell,readCells,readD,optInt,splice,srcOf,List.contains,List.elem,z2,z3,z4,z5,z6,z7,z8,z9,z10,z11,z12,z13,z14,z15,z16,z18,z19,z20,z22,Option.map,intD,boolD,reduceIte,z23,forgetT,Nat.reduceAdd,Nat.reduceBEq,z26,z29,z34,z46,z47,z48,z51,z56,drawOK,chainOK,traceOps,stepRec,runAt,z70,z72,z18,z19,Nat.reduceBEq,gF, ge2, List.length_map, e2, e1]; (first | done | exact rfl))) <;> (try simp only [onlyK])
      exact ⟨_, .inl rfl, ex_st _ _ _ rfl⟩
  rintro _ ⟨cs, hm, x, rfl⟩
  refine W_mid (fun st => ∃ cs, MC PS2 cs ∧ ∃ x : Nat → AV, st = ⟨[x 0, x 1, x 2, x 3, x 4, x 5, x 6, .ptr J1.length 0, intD 0, .ptr H.length 0, .ptr J2.length 0, x 11, x 12, x 13, x 14], J2 ++ [AObj.cells cs]⟩) ?_ ?_
  · by_cases h0 : f.nsn = []
    · have f1 : ((f.nsn.length : Int) > 0) = False := by rw [h0]; exact eq_false (by decide)
      have e0 : PS2 = PS1 := by rw [← hPS2, pairJ, if_pos h0, List.append_nil]
      (repeat ((first | refine W_sq ?_ | refine W_bk ?_ | refine W_ret ?_ | refine W_exit ?_ | refine W_skip ?_ | (apply W_rg; focus (intro _; simp only [evalR,runOps,stepOp,wanted,aop,evx,put,unflag,binV,isShift,AV.elems,AV.unf,AV.mkAgg,AV.pures,readCells,List.contains,List.elem,z2,z3,z4,z5,z6,z7,z8,z9,z10,z11,z12,z13,z14,z15,Option.map,intD,reduceIte,z23,forgetT,Nat.reduceAdd,Nat.reduceLeDiff,z26,z43,gF, b_gtr, f1, List.length_map]; (first | done | exact rfl))) | (refine W_cT ?_ ?_; focus (simp only [evx,List.contains,List.elem,z2,z3,AV.unf,reduceIte,z23]; done)) | (refine W_cF ?_ ?_; focus (simp only [evx,List.contains,List.elem,z2,z3,AV.unf,reduceIte,z23]; done))) <;> (try simp only [seqK,onlyK])))
      exact ⟨_, e0 ▸ hm, ex_st _ _ _ rfl⟩
    · have f1 : ((f.nsn.length : Int) > 0) = True := eq_true (by have := List.length_pos_iff.2 h0; omega)
      have e0 : PS2 = PS1 ++ [(kNs, rowJ f.nsn)] := by rw [← hPS2, pairJ, if_neg h0]
      have e1 := fun M => Strs_ev H.length M f.nsn (by omega)
      have e2 := fun M => PutM_ev H.length M PS1 kNs (rowJ f.nsn) (by omega)
      simp only [← e0] at e2
      (iterate 3 ((first | refine W_sq ?_ | refine W_bk ?_ | refine W_ret ?_ | refine W_exit ?_ | refine W_skip ?_ | (apply W_rg; focus (intro _; simp only [evalR,runOps,stepOp,wanted,aop,evx,put,unflag,binV,isShift,AV.elems,AV.unf,AV.mkAgg,AV.pures,readCells,List.contains,List.elem,z2,z3,z4,z5,z6,z7,z8,z9,z10,z11,z12,z13,z14,z15,Option.map,intD,reduceIte,z23,forgetT,Nat.reduceAdd,Nat.reduceLeDiff,z26,z42,gF, b_gtr, f1, List.length_map]; (first | done | exact rfl))) | (refine W_cT ?_ ?_; focus (simp only [evx,List.contains,List.elem,z2,z3,AV.unf,reduceIte,z23]; done)) | (refine W_cF ?_ ?_; focus (simp only [evx,List.contains,List.elem,z2,z3,AV.unf,reduceIte,z23,boolD]; done))) <;> (try simp only [seqK])))
      rcases hm with rfl | ⟨hq, rfl⟩
      · (apply W_drw; focus (refine Evl.call ((e1 (J2 ++ [AObj.cells [.d (.int .i64 5), .d (.int .i64 0), .d (.str []), .d (.slice (kD PS1)), .d (.slice (vD PS1))]]))) (Evl.call ((e2 (J2 ++ [AObj.cells [.d (.int .i64 5), .d (.int .i64 0), .d (.str []), .d (.slice (kD PS1)), .d (.slice (vD PS1))]]))) (Evl.all fun k e2 e1 => ?_)); simp (maxSteps := 100000000) only [srcC,AV.growable,AV.owned,evalR,wanted,aop,evx,put,unflag,binV,nilEq,isShift,binStr,unV,AV.elems,AV.unf,AV.int?,AV.mkAgg,AV.pures,AV.cells,D.cells,AV.isCell,D.isCell,readCells,readD,optInt,splice,srcOf,List.contains,List.elem,z2,z3,z4,z5,z6,z7,z8,z9,z10,z11,z12,z13,z14,z15,z16,z18,z19,z20,z22,Option.map,intD,boolD,reduceIte,z23,forgetT,Nat.reduceAdd,Nat.reduceLeDiff,Nat.reduceBEq,z26,z29,z34,z46,z47,z48,z51,z56,drawOK,chainOK,traceOps,stepRec,runAt,z70,z72,z18,z19,Nat.reduceBEq,gF, ge2, List.length_map, e2, e1]; (first | done | exact rfl))) <;> (try simp only [onlyK])
        exact ⟨_, .inl rfl, ex_st _ _ _ rfl⟩
      · have k1 : kD PS1 = [] := by rw [hq]; rfl
        have k2 : vD PS1 = [] := by rw [hq]; rfl
        simp only [k1, k2] at e2
        (apply W_drw; focus (refine Evl.call ((e1 (J2 ++ [AObj.cells [.d (.int .i64 5), .d (.int .i64 0), .d (.str []), .fslice [], .fslice []]]))) (Evl.call ((e2 (J2 ++ [AObj.cells [.d (.int .i64 5), .d (.int .i64 0), .d (.str []), .fslice [], .fslice []]]))) (Evl.all fun k e2 e1 => ?_)); simp (maxSteps := 100000000) only [srcC,AV.growable,AV.owned,evalR,wanted,aop,evx,put,unflag,binV,nilEq,isShift,binStr,unV,AV.elems,AV.unf,AV.int?,AV.mkAgg,AV.pures,AV.cells,D.cells,AV.isCell,D.isCell,readCells,readD,optInt,splice,srcOf,List.contains,List.elem,z2,z3,z4,z5,z6,z7,z8,z9,z10,z11,z12,z13,z14,z15,z16,z18,z19,z20,z22,Option.map,intD,boolD,reduceIte,z23,forgetT,Nat.reduceAdd,Nat.reduceLeDiff,Nat.reduceBEq,z26,z29,z34,z46,z47,z48,z51,z56,drawOK,chainOK,traceOps,stepRec,runAt,z70,z72,z18,z19,Nat.reduceBEq,gF, ge2, List.length_map, e2, e1]; (first | done | exact rfl))) <;> (try simp only [onlyK])
        exact ⟨_, .inl rfl, ex_st _ _ _ rfl⟩
  rintro _ ⟨cs, hm, x, rfl⟩
  refine W_mid (fun st => ∃ cs, MC PS3 cs ∧ ∃ x : Nat → AV, st = ⟨[x 0, x 1, x 2, x 3, x 4, x 5, x 6, .ptr J1.length 0, intD 0, .ptr H.length 0, .ptr J2.length 0, x 11, x 12, x 13, x 14], J2 ++ [AObj.cells cs]⟩) ?_ ?_
  · by_cases h0 : f.nty = []
    · have f1 : ((f.nty.length : Int) > 0) = False := by rw [h0]; exact eq_false (by decide)
      have e0 : PS3 = PS2 := by rw [← hPS3, pairJ, if_pos h0, List.append_nil]
      (repeat ((first | refine W_sq ?_ | refine W_bk ?_ | refine W_ret ?_ | refine W_exit ?_ | refine W_skip ?_ | (apply W_rg; focus (intro _; simp only [evalR,runOps,stepOp,wanted,aop,evx,put,unflag,binV,isShift,AV.elems,AV.unf,AV.mkAgg,AV.pures,readCells,List.contains,List.elem,z2,z3,z4,z5,z6,z7,z8,z9,z10,z11,z12,z13,z14,z15,Option.map,intD,reduceIte,z23,forgetT,Nat.reduceAdd,Nat.reduceLeDiff,z26,z43,gF, b_gtr, f1, List.length_map]; (first | done | exact rfl))) | (refine W_cT ?_ ?_; focus (simp only [evx,List.contains,List.elem,z2,z3,AV.unf,reduceIte,z23]; done)) | (refine W_cF ?_ ?_; focus (simp only [evx,List.contains,List.elem,z2,z3,AV.unf,reduceIte,z23]; done))) <;> (try simp only [seqK,onlyK])))
      exact ⟨_, e0 ▸ hm, ex_st _ _ _ rfl⟩
    · have f1 : ((f.nty.length : Int) > 0) = True := eq_true (by have := List.length_pos_iff.2 h0; omega)
      have e0 : PS3 = PS2 ++ [(kNt, rowJ f.nty)] := by rw [← hPS3, pairJ, if_neg h0]
      have e1 := fun M => Strs_ev H.length M f.nty (by omega)
      have e2 := fun M => PutM_ev H.length M PS2 kNt (rowJ f.nty) (by omega)
      simp only [← e0] at e2
      (iterate 3 ((first | refine W_sq ?_ | refine W_bk ?_ | refine W_ret ?_ | refine W_exit ?_ | refine W_skip ?_ | (apply W_rg; focus (intro _; simp only [evalR,runOps,stepOp,wanted,aop,evx,put,unflag,binV,isShift,AV.elems,AV.unf,AV.mkAgg,AV.pures,readCells,List.contains,List.elem,z2,z3,z4,z5,z6,z7,z8,z9,z10,z11,z12,z13,z14,z15,Option.map,intD,reduceIte,z23,forgetT,Nat.reduceAdd,Nat.reduceLeDiff,z26,z42,gF, b_gtr, f1, List.length_map]; (first | done | exact rfl))) | (refine W_cT ?_ ?_; focus (simp only [evx,List.contains,List.elem,z2,z3,AV.unf,reduceIte,z23]; done)) | (refine W_cF ?_ ?_; focus (simp only [evx,List.contains,List.elem,z2,z3,AV.unf,reduceIte,z23,boolD]; done))) <;> (try simp only [seqK])))
      rcases hm with rfl | ⟨hq, rfl⟩
      · (apply W_drw; focus (refine Evl.call ((e1 (J2 ++ [AObj.cells [.d (.int .i64 5), .d (.int .i64 0), .d (.str []), .d (.slice (kD PS2)), .d (.slice (vD PS2))]]))) (Evl.call ((e2 (J2 ++ [AObj.cells [.d (.int .i64 5), .d (.int .i64 0), .d (.str []), .d (.slice (kD PS2)), .d (.slice (vD PS2))]]))) (Evl.all fun k e2 e1 => ?_)); simp (maxSteps := 100000000) only [srcC,AV.growable,AV.owned,evalR,wanted,aop,evx,put,unflag,binV,nilEq,isShift,binStr,unV,AV.elems,AV.unf,AV.int?,AV.mkAgg,AV.pures,AV.cells,D.cells,AV.isCell,D.isCell,readCells,readD,optInt,splice,srcOf,List.contains,List.elem,z2,z3,z4,z5,z6,z7,z8,z9,z10,z11,z12,z13,z14,z15,z16,z18,z19,z20,z22,Option.map,intD,boolD,reduceIte,z23,forgetT,Nat.reduceAdd,Nat.reduceLeDiff,Nat.reduceBEq,z26,z29,z34,z46,z47,z48,z51,z56,drawOK,chainOK,traceOps,stepRec,runAt,z70,z72,z18,z19,Nat.reduceBEq,gF, ge2, List.length_map, e2, e1]; (first | done | exact rfl))) <;> (try simp only [onlyK])
        exact ⟨_, .inl rfl, ex_st _ _ _ rfl⟩
      · have k1 : kD PS2 = [] := by rw [hq]; rfl
        have k2 : vD PS2 = [] := by rw [hq]; rfl
        simp only [k1, k2] at e2
        (apply W_drw; focus (refine Evl.call ((e1 (J2 ++ [AObj.cells [.d (.int .i64 5), .d (.int .i64 0), .d (.str []), .fslice [], .fslice []]]))) (Evl.call ((e2 (J2 ++ [AObj.cells [.d (.int .i64 5), .d (.int .i64 0), .d (.str []), .fslice [], .fslice []]]))) (Evl.all fun k e2 e1 => ?_)); simp (maxSteps := 100000000) only [srcC,AV.growable,AV.owned,evalR,wanted,aop,evx,put,unflag,binV,nilEq,isShift,binStr,unV,AV.elems,AV.unf,AV.int?,AV.mkAgg,AV.pures,AV.cells,D.cells,AV.isCell,D.isCell,readCells,readD,optInt,splice,srcOf,List.contains,List.elem,z2,z3,z4,z5,z6,z7,z8,z9,z10,z11,z12,z13,z14,z15,z16,z18,z19,z20,z22,Option.map,intD,boolD,reduceIte,z23,forgetT,Nat.reduceAdd,Nat.reduceLeDiff,Nat.reduceBEq,z26,z29,z34,z46,z47,z48,z51,z56,drawOK,chainOK,traceOps,stepRec,runAt,z70,z72,z18,z19,Nat.reduceBEq,gF, ge2, List.length_map, e2, e1]; (first | done | exact rfl))) <;> (try simp only [onlyK])
        exact ⟨_, .inl rfl, ex_st _ _ _ rfl⟩
  rintro _ ⟨cs, hm, x, rfl⟩
  refine W_mid (fun st => ∃ cs, MC PS4 cs ∧ ∃ x : Nat → AV, st = ⟨[x 0, x 1, x 2, x 3, x 4, x 5, x 6, .ptr J1.length 0, intD 0, .ptr H.length 0, .ptr J2.length 0, x 11, x 12, x 13, x 14], J2 ++ [AObj.cells cs]⟩) ?_ ?_
  · by_cases h0 : f.sn = []
    · have f1 : ((f.sn.length : Int) > 0) = False := by rw [h0]; exact eq_false (by decide)
      have e0 : PS4 = PS3 := by rw [← hPS4, pairJ, if_pos h0, List.append_nil]
      (repeat ((first | refine W_sq ?_ | refine W_bk ?_ | refine W_ret ?_ | refine W_exit ?_ | refine W_skip ?_ | (apply W_rg; focus (intro _; simp only [evalR,runOps,stepOp,wanted,aop,evx,put,unflag,binV,isShift,AV.elems,AV.unf,AV.mkAgg,AV.pures,readCells,List.contains,List.elem,z2,z3,z4,z5,z6,z7,z8,z9,z10,z11,z12,z13,z14,z15,Option.map,intD,reduceIte,z23,forgetT,Nat.reduceAdd,Nat.reduceLeDiff,z26,z43,gF, b_gtr, f1, List.length_map]; (first | done | exact rfl))) | (refine W_cT ?_ ?_; focus (simp only [evx,List.contains,List.elem,z2,z3,AV.unf,reduceIte,z23]; done)) | (refine W_cF ?_ ?_; focus (simp only [evx,List.contains,List.elem,z2,z3,AV.unf,reduceIte,z23]; done))) <;> (try simp only [seqK,onlyK])))
      exact ⟨_, e0 ▸ hm, ex_st _ _ _ rfl⟩
    · have f1 : ((f.sn.length : Int) > 0) = True := eq_true (by have := List.length_pos_iff.2 h0; omega)
      have e0 : PS4 = PS3 ++ [(kS, rowJ f.sn)] := by rw [← hPS4, pairJ, if_neg h0]
      have e1 := fun M => Strs_ev H.length M f.sn (by omega)
      have e2 := fun M => PutM_ev H.length M PS3 kS (rowJ f.sn) (by omega)
      simp only [← e0] at e2
      (iterate 3 ((first | refine W_sq ?_ | refine W_bk ?_ | refine W_ret ?_ | refine W_exit ?_ | refine W_skip ?_ | (apply W_rg; focus (intro _; simp only [evalR,runOps,stepOp,wanted,aop,evx,put,unflag,binV,isShift,AV.elems,AV.unf,AV.mkAgg,AV.pures,readCells,List.contains,List.elem,z2,z3,z4,z5,z6,z7,z8,z9,z10,z11,z12,z13,z14,z15,Option.map,intD,reduceIte,z23,forgetT,Nat.reduceAdd,Nat.reduceLeDiff,z26,z42,gF, b_gtr, f1, List.length_map]; (first | done | exact rfl))) | (refine W_cT ?_ ?_; focus (simp only [evx,List.contains,List.elem,z2,z3,AV.unf,reduceIte,z23]; done)) | (refine W_cF ?_ ?_; focus (simp only [evx,List.contains,List.elem,z2,z3,AV.unf,reduceIte,z23,boolD]; done))) <;> (try simp only [seqK])))
      rcases hm with rfl | ⟨hq, rfl⟩
      · (apply W_drw; focus (refine Evl.call ((e1 (J2 ++ [AObj.cells [.d (.int .i64 5), .d (.int .i64 0), .d (.str []), .d (.slice (kD PS3)), .d (.slice (vD PS3))]]))) (Evl.call ((e2 (J2 ++ [AObj.cells [.d (.int .i64 5), .d (.int .i64 0), .d (.str []), .d (.slice (kD PS3)), .d (.slice (vD PS3))]]))) (Evl.all fun k e2 e1 => ?_)); simp (maxSteps := 100000000) only [srcC,AV.growable,AV.owned,evalR,wanted,aop,evx,put,unflag,binV,nilEq,isShift,binStr,unV,AV.elems,AV.unf,AV.int?,AV.mkAgg,AV.pures,AV.cells,D.cells,AV.isCell,D.isCell,readCells,readD,optInt,splice,srcOf,List.contains,List.elem,z2,z3,z4,z5,z6,z7,z8,z9,z10,z11,z12,z13,z14,z15,z16,z18,z19,z20,z22,Option.map,intD,boolD,reduceIte,z23,forgetT,Nat.reduceAdd,Nat.reduceLeDiff,Nat.reduceBEq,z26,z29,z34,z46,z47,z48,z51,z56,drawOK,chainOK,traceOps,stepRec,runAt,z70,z72,z18,z19,Nat.reduceBEq,gF, ge2, List.length_map, e2, e1]; (first | done | exact rfl))) <;> (try simp only [onlyK])
        exact ⟨_, .inl rfl, ex_st _ _ _ rfl⟩
      · have k1 : kD PS3 = [] := by rw [hq]; rfl
        have k2 : vD PS3 = [] := by rw [hq]; rfl
        simp only [k1, k2] at e2
        (apply W_drw; focus (refine Evl.call ((e1 (J2 ++ [AObj.cells [.d (.int .i64 5), .d (.int .i64 0), .d (.str []), .fslice [], .fslice []]]))) (Evl.call ((e2 (J2 ++ [AObj.cells [.d (.int .i64 5), .d (.int .i64 0), .d (.str []), .fslice [], .fslice []]]))) (Evl.all fun k e2 e1 => ?_)); simp (maxSteps := 100000000) only [srcC,AV.growable,AV.owned,evalR,wanted,aop,evx,put,unflag,binV,nilEq,isShift,binStr,unV,AV.elems,AV.unf,AV.int?,AV.mkAgg,AV.pures,AV.cells,D.cells,AV.isCell,D.isCell,readCells,readD,optInt,splice,srcOf,List.contains,List.elem,z2,z3,z4,z5,z6,z7,z8,z9,z10,z11,z12,z13,z14,z15,z16,z18,z19,z20,z22,Option.map,intD,boolD,reduceIte,z23,forgetT,Nat.reduceAdd,Nat.reduceLeDiff,Nat.reduceBEq,z26,z29,z34,z46,z47,z48,z51,z56,drawOK,chainOK,traceOps,stepRec,runAt,z70,z72,z18,z19,Nat.reduceBEq,gF, ge2, List.length_map, e2, e1]; (first | done | exact rfl))) <;> (try simp only [onlyK])
        exact ⟨_, .inl rfl, ex_st _ _ _ rfl⟩
  rintro _ ⟨cs, hm, x, rfl⟩
  refine W_mid (fun st => ∃ cs, MC PS5 cs ∧ ∃ x : Nat → AV, st = ⟨[x 0, x 1, x 2, x 3, x 4, x 5, x 6, .ptr J1.length 0, intD 0, .ptr H.length 0, .ptr J2.length 0, x 11, x 12, x 13, x 14], J2 ++ [AObj.cells cs]⟩) ?_ ?_
  · by_cases h0 : f.ty = []
    · have f1 : ((f.ty.length : Int) > 0) = False := by rw [h0]; exact eq_false (by decide)
      have e0 : PS5 = PS4 := by rw [← hPS5, pairJ, if_pos h0, List.append_nil]
      (repeat ((first | refine W_sq ?_ | refine W_bk ?_ | refine W_ret ?_ | refine W_exit ?_ | refine W_skip ?_ | (apply W_rg; focus (intro _; simp only [evalR,runOps,stepOp,wanted,aop,evx,put,unflag,binV,isShift,AV.elems,AV.unf,AV.mkAgg,AV.pures,readCells,List.contains,List.elem,z2,z3,z4,z5,z7,z8,z9,z10,z11,z13,z14,z15,Option.map,intD,reduceIte,z23,forgetT,Nat.reduceAdd,Nat.reduceLeDiff,z25,z26,z43,gF, b_gtr, f1, List.length_map]; (first | done | exact rfl))) | (refine W_cT ?_ ?_; focus (simp only [evx,List.contains,List.elem,z2,z3,AV.unf,reduceIte,z23]; done)) | (refine W_cF ?_ ?_; focus (simp only [evx,List.contains,List.elem,z2,z3,AV.unf,reduceIte,z23]; done))) <;> (try simp only [seqK,onlyK])))
      exact ⟨_, e0 ▸ hm, ex_st _ _ _ rfl⟩
    · have f1 : ((f.ty.length : Int) > 0) = True := eq_true (by have := List.length_pos_iff.2 h0; omega)
      have e0 : PS5 = PS4 ++ [(kT, rowJ f.ty)] := by rw [← hPS5, pairJ, if_neg h0]
      have e1 := fun M => Strs_ev H.length M f.ty (by omega)
      have e2 := fun M => PutM_ev H.length M PS4 kT (rowJ f.ty) (by omega)
      simp only [← e0] at e2
      (iterate 3 ((first | refine W_sq ?_ | refine W_bk ?_ | refine W_ret ?_ | refine W_exit ?_ | refine W_skip ?_ | (apply W_rg; focus (intro _; simp only [evalR,runOps,stepOp,wanted,aop,evx,put,unflag,binV,isShift,AV.elems,AV.unf,AV.mkAgg,AV.pures,readCells,List.contains,List.elem,z2,z3,z4,z5,z7,z8,z9,z10,z11,z13,z14,z15,Option.map,intD,reduceIte,z23,forgetT,Nat.reduceAdd,Nat.reduceLeDiff,z25,z26,z42,gF, b_gtr, f1, List.length_map]; (first | done | exact rfl))) | (refine W_cT ?_ ?_; focus (simp only [evx,List.contains,List.elem,z2,z3,AV.unf,reduceIte,z23]; done)) | (refine W_cF ?_ ?_; focus (simp only [evx,List.contains,List.elem,z2,z3,AV.unf,reduceIte,z23,boolD]; done))) <;> (try simp only [seqK])))
      rcases hm with rfl | ⟨hq, rfl⟩
      · (apply W_drw; focus (refine Evl.call ((e1 (J2 ++ [AObj.cells [.d (.int .i64 5), .d (.int .i64 0), .d (.str []), .d (.slice (kD PS4)), .d (.slice (vD PS4))]]))) (Evl.call ((e2 (J2 ++ [AObj.cells [.d (.int .i64 5), .d (.int .i64 0), .d (.str []), .d (.slice (kD PS4)), .d (.slice (vD PS4))]]))) (Evl.all fun k e2 e1 => ?_)); simp (maxSteps := 100000000) only [srcC,AV.growable,AV.owned,evalR,wanted,aop,evx,put,unflag,binV,nilEq,isShift,binStr,unV,AV.elems,AV.unf,AV.int?,AV.mkAgg,AV.pures,AV.cells,D.cells,AV.isCell,D.isCell,readCells,readD,optInt,splice,srcOf,List.contains,List.elem,z2,z3,z4,z5,z6,z7,z8,z9,z10,z11,z12,z13,z14,z15,z16,z18,z19,z20,z22,Option.map,intD,boolD,reduceIte,z23,forgetT,Nat.reduceAdd,Nat.reduceLeDiff,Nat.reduceBEq,z25,z26,z29,z34,z46,z47,z48,z51,z56,drawOK,chainOK,traceOps,stepRec,runAt,z70,z72,z18,z19,Nat.reduceBEq,gF, ge2, List.length_map, e2, e1]; (first | done | exact rfl))) <;> (try simp only [onlyK])
        exact ⟨_, .inl rfl, ex_st _ _ _ rfl⟩
      · have k1 : kD PS4 = [] := by rw [hq]; rfl
        have k2 : vD PS4 = [] := by rw [hq]; rfl
        simp only [k1, k2] at e2
        (apply W_drw; focus (refine Evl.call ((e1 (J2 ++ [AObj.cells [.d (.int .i64 5), .d (.int .i64 0), .d (.str []), .fslice [], .fslice []]]))) (Evl.call ((e2 (J2 ++ [AObj.cells [.d (.int .i64 5), .d (.int .i64 0), .d (.str []), .fslice [], .fslice []]]))) (Evl.all fun k e2 e1 => ?_)); simp (maxSteps := 100000000) only [srcC,AV.growable,AV.owned,evalR,wanted,aop,evx,put,unflag,binV,nilEq,isShift,binStr,unV,AV.elems,AV.unf,AV.int?,AV.mkAgg,AV.pures,AV.cells,D.cells,AV.isCell,D.isCell,readCells,readD,optInt,splice,srcOf,List.contains,List.elem,z2,z3,z4,z5,z6,z7,z8,z9,z10,z11,z12,z13,z14,z15,z16,z18,z19,z20,z22,Option.map,intD,boolD,reduceIte,z23,forgetT,Nat.reduceAdd,Nat.reduceLeDiff,Nat.reduceBEq,z25,z26,z29,z34,z46,z47,z48,z51,z56,drawOK,chainOK,traceOps,stepRec,runAt,z70,z72,z18,z19,Nat.reduceBEq,gF, ge2, List.length_map, e2, e1]; (first | done | exact rfl))) <;> (try simp only [onlyK])
        exact ⟨_, .inl rfl, ex_st _ _ _ rfl⟩
  rintro _ ⟨cs, hm, x, rfl⟩
  have hp := parse_raw hf
  have hP := fun M => ParseR_ev H.length M 3 _ (raw_bd hf)
  rw [hall] at hp
  simp only [hall] at hP
  simp only [hp, map_d] at hP
  have hgood : Ev X 11 H.length [.d (.agg [.int .i64 5, .int .i64 0, .str [], .slice (kD PS5), .slice (vD PS5)])] (J2 ++ [AObj.cells cs]) (parseV (if limB f = true ∧ allV f = true then some f else none)) (J2 ++ [AObj.cells cs]) := hP _
  have hload : ∃ a b, cs = [.d (.int .i64 5), .d (.int .i64 0), .d (.str []), a, b] ∧ a.unf = .d (.slice (kD PS5)) ∧ b.unf = .d (.slice (vD PS5)) := by
    rcases hm with rfl | ⟨hq, rfl⟩
    · exact ⟨_, _, rfl, rfl, rfl⟩
    · rw [hq]; exact ⟨_, _, rfl, rfl, rfl⟩
  unfold contentJ
  rw [hall]
  rcases hm with rfl | ⟨hq, rfl⟩
  · obtain ⟨M, hM⟩ : ∃ M, J2 ++ [AObj.cells [.d (.int .i64 5), .d (.int .i64 0), .d (.str []), .d (.slice (kD PS5)), .d (.slice (vD PS5))]] = M := ⟨_, rfl⟩
    have gM : M[J2.length]? = some (.cells [.d (.int .i64 5), .d (.int .i64 0), .d (.str []), .d (.slice (kD PS5)), .d (.slice (vD PS5))]) := by rw [← hM]; exact get_last _ _
    have gMr : M[J1.length]? = some (.cells zC) := by rw [← hM]; exact gR _
    have lM : M.length = H.length + 3 := by rw [← hM]; simp [l2]
    have ge3 : H.length ≤ M.length := by omega
    have gX : ∀ o, (M ++ [o])[J2.length]? = some (.cells [.d (.int .i64 5), .d (.int .i64 0), .d (.str []), .d (.slice (kD PS5)), .d (.slice (vD PS5))]) := fun o => get_more o gM
    have gXr : ∀ o, (M ++ [o])[J1.length]? = some (.cells zC) := fun o => get_more o gMr
    have gS : ∀ o o' : AObj, ((M ++ [o]).set J1.length o')[J1.length]? = some o' := fun o o' => List.getElem?_set_self (by simp; omega)
    rw [hM] at hgood ⊢
    by_cases hc : limB f = true ∧ allV f = true
    · rw [if_pos hc] at hgood ⊢
      have hv : contentV (some (mapJ PS5)) = .tuple [.d (.agg [.int .i64 5, .int .i64 0, .str [], .slice (kD PS5), .slice (vD PS5)]), intD 0] := by show AV.tuple [.d (mapJ PS5).d, intD 0] = _; rw [map_d]
      rw [hv]
      unfold parseV at hgood
      simp only [flD] at hgood
      (iterate 1 ((first | refine W_sq ?_ | refine W_bk ?_ | refine W_ret ?_ | refine W_exit ?_ | refine W_skip ?_ | (apply W_rg; focus (intro _; simp only [z0,srcC,AV.growable,AV.owned,evalC,evalR,runOps,stepOp,wanted,aop,evx,put,unflag,binV,nilEq,isShift,binStr,unV,AV.elems,AV.unf,AV.int?,AV.toD,AV.toDs,AV.mkAgg,AV.pures,AV.cells,D.cells,AV.isCell,D.isCell,readCells,readD,optInt,fill,splice,srcOf,z1,List.contains,List.elem,z2,z3,z4,z5,z6,z7,z8,z9,z10,z11,z12,z13,z14,z15,z16,z17,z18,z19,z20,z21,z22,Option.map,intD,boolD,bD,reduceIte,z23,z24,forgetT,Nat.reduceAdd,Nat.reduceLeDiff,Nat.reduceMul,Nat.reduceSub,Nat.reduceEqDiff,Nat.reduceBEq,Nat.reduceBNe,z25,z26,z27,z28,z29,z30,z31,z32,z33,z34,z35,z36,z37,z38,z39,z40,z41,z42,z43,z44,z45,z46,z47,z48,z49,z50,z51,z52,Int.reduceToNat,z53,z54,z55,z56,z57,z58,Int.reduceBEq,Int.reduceBNe,Int.reduceLT,Int.reduceLE,Int.reduceGT,Int.reduceGE,Int.reduceEq,z59,z60,z61,z62,List.reduceReplicate,z63,z64,z65,z66,z67,chunks]; (first | done | exact rfl))) | (refine W_cT ?_ ?_; focus (simp only [evx,List.contains,List.elem,z2,z3,AV.unf,reduceIte,z23,boolD]; done)) | (refine W_cF ?_ ?_; focus (simp only [evx,List.contains,List.elem,z2,z3,AV.unf,reduceIte,z23,boolD]; done))) <;> (try simp only [seqK,blockK,loopK,onlyK,forgetT,put,unflag,z4,z5,z2,z3,AV.unf,reduceIte,Nat.reduceEqDiff,Nat.reduceAdd])))
      refine W_region ?_; apply WO_take 1; (focus (intro _; simp only [runOps,stepOp,wanted,aop,evx,put,unflag,AV.unf,AV.mkAgg,AV.pures,readCells,List.contains,List.elem,z2,z3,z4,z5,z7,z8,z9,z10,z11,z13,z14,z15,Option.map,intD,reduceIte,z23,Nat.reduceAdd,z26,z51,gM]; (first | done | exact rfl))); simp only [List.drop_succ_cons, List.drop_zero]; refine WO_call ?_; simp only [evx, List.map_cons, List.map_nil, List.contains, List.elem, List.getD_cons_succ, List.getD_cons_zero, reduceIte, Bool.false_eq_true, AV.unf, intD]; refine Ev.fn hgood ?_
      (apply WO_end; (focus (intro _; simp only [runOps,stepOp,wanted,aop,evx,put,unflag,AV.unf,AV.cells,D.cells,AV.isCell,D.isCell,splice,List.contains,List.elem,z2,z3,z4,z5,z6,z7,z8,z9,z11,z12,z13,z14,z15,z18,z19,z20,z22,Option.map,intD,reduceIte,z23,Nat.reduceAdd,Nat.reduceBEq,z26,z29,z34,z46,z47,z48,z51,ge3]; (first | done | exact rfl)))) <;> (try simp only [seqK,forgetT,z4,z5])
      (repeat ((first | refine W_sq ?_ | refine W_bk ?_ | refine W_ret ?_ | refine W_exit ?_ | refine W_skip ?_ | (apply W_rg; focus (intro _; simp only [evalR,runOps,stepOp,wanted,aop,evx,put,unflag,binV,isShift,AV.unf,AV.mkAgg,AV.pures,AV.cells,D.cells,AV.isCell,D.isCell,readCells,splice,List.contains,List.elem,z2,z3,z4,z5,z7,z8,z9,z10,z11,z12,z13,z14,z15,z18,z19,z20,z22,Option.map,reduceIte,z23,forgetT,Nat.reduceAdd,Nat.reduceBEq,z26,z29,z30,z34,z48,z51,gX, gXr, b_neq, ge1]; (first | done | exact rfl))) | (refine W_cT ?_ ?_; focus (simp only [evx,List.contains,List.elem,z2,z3,AV.unf,reduceIte,z23]; done)) | (refine W_cF ?_ ?_; focus (simp only [evx,List.contains,List.elem,z2,z3,AV.unf,reduceIte,z23]; done))) <;> (try simp only [seqK])))
      exact ans_cut (v := .tuple [.d (.agg [.int .i64 5, .int .i64 0, .str [], .slice (kD PS5), .slice (vD PS5)]), intD 0]) (by simp only [AV.unf,AV.mkAgg,AV.pures,readCells,z2,z3,z7,z8,z9,z10,z11,z13,z14,z15,Option.map,reduceIte,Nat.reduceAdd,z26,z51,resV, gS]; rfl) rfl ⟨rfl, rfl⟩
    · rw [if_neg hc] at hgood ⊢
      have hv : contentV none = .tuple [.d (.agg [.int .i64 0, .int .i64 0, .str [], .slice [], .slice []]), intD 1] := by show AV.tuple [.d J.zero.d, intD 1] = _; rw [zero_d]
      rw [hv]
      have hpn : parseV none = .tuple [.d (.agg [.slice [], .slice [], .slice [], .slice [], .int .i64 0]), intD 1] := rfl
      rw [hpn] at hgood
      (iterate 1 ((first | refine W_sq ?_ | refine W_bk ?_ | refine W_ret ?_ | refine W_exit ?_ | refine W_skip ?_ | (apply W_rg; focus (intro _; simp only [z0,srcC,AV.growable,AV.owned,evalC,evalR,runOps,stepOp,wanted,aop,evx,put,unflag,binV,nilEq,isShift,binStr,unV,AV.elems,AV.unf,AV.int?,AV.toD,AV.toDs,AV.mkAgg,AV.pures,AV.cells,D.cells,AV.isCell,D.isCell,readCells,readD,optInt,fill,splice,srcOf,z1,List.contains,List.elem,z2,z3,z4,z5,z6,z7,z8,z9,z10,z11,z12,z13,z14,z15,z16,z17,z18,z19,z20,z21,z22,Option.map,intD,boolD,bD,reduceIte,z23,z24,forgetT,Nat.reduceAdd,Nat.reduceLeDiff,Nat.reduceMul,Nat.reduceSub,Nat.reduceEqDiff,Nat.reduceBEq,Nat.reduceBNe,z25,z26,z27,z28,z29,z30,z31,z32,z33,z34,z35,z36,z37,z38,z39,z40,z41,z42,z43,z44,z45,z46,z47,z48,z49,z50,z51,z52,Int.reduceToNat,z53,z54,z55,z56,z57,z58,Int.reduceBEq,Int.reduceBNe,Int.reduceLT,Int.reduceLE,Int.reduceGT,Int.reduceGE,Int.reduceEq,z59,z60,z61,z62,List.reduceReplicate,z63,z64,z65,z66,z67,chunks]; (first | done | exact rfl))) | (refine W_cT ?_ ?_; focus (simp only [evx,List.contains,List.elem,z2,z3,AV.unf,reduceIte,z23,boolD]; done)) | (refine W_cF ?_ ?_; focus (simp only [evx,List.contains,List.elem,z2,z3,AV.unf,reduceIte,z23,boolD]; done))) <;> (try simp only [seqK,blockK,loopK,onlyK,forgetT,put,unflag,z4,z5,z2,z3,AV.unf,reduceIte,Nat.reduceEqDiff,Nat.reduceAdd])))
      refine W_region ?_; apply WO_take 1; (focus (intro _; simp only [runOps,stepOp,wanted,aop,evx,put,unflag,AV.unf,AV.mkAgg,AV.pures,readCells,List.contains,List.elem,z2,z3,z4,z5,z7,z8,z9,z10,z11,z13,z14,z15,Option.map,intD,reduceIte,z23,Nat.reduceAdd,z26,z51,gM]; (first | done | exact rfl))); simp only [List.drop_succ_cons, List.drop_zero]; refine WO_call ?_; simp only [evx, List.map_cons, List.map_nil, List.contains, List.elem, List.getD_cons_succ, List.getD_cons_zero, reduceIte, Bool.false_eq_true, AV.unf, intD]; refine Ev.fn hgood ?_
      (apply WO_end; (focus (intro _; simp only [runOps,stepOp,wanted,aop,evx,put,unflag,AV.unf,AV.cells,D.cells,AV.isCell,D.isCell,splice,List.contains,List.elem,z2,z3,z4,z5,z6,z7,z8,z9,z11,z12,z13,z14,z15,z18,z19,z20,z22,Option.map,intD,reduceIte,z23,Nat.reduceAdd,Nat.reduceBEq,z26,z29,z34,z46,z47,z48,z51,ge3]; (first | done | exact rfl)))) <;> (try simp only [seqK,forgetT,z4,z5])
      (repeat ((first | refine W_sq ?_ | refine W_bk ?_ | refine W_ret ?_ | refine W_exit ?_ | refine W_skip ?_ | (apply W_rg; focus (intro _; simp only [evalR,runOps,stepOp,wanted,aop,evx,put,unflag,binV,isShift,AV.unf,AV.mkAgg,AV.pures,AV.cells,AV.isCell,D.isCell,fill,splice,List.contains,List.elem,z2,z3,z4,z5,z9,z11,z12,z13,z14,z15,z18,z19,z20,z22,Option.map,reduceIte,z23,forgetT,Nat.reduceAdd,Nat.reduceBEq,z26,z29,z34,z48,z51,Int.reduceBNe,gXr, b_neq, ge1]; (first | done | exact rfl))) | (refine W_cT ?_ ?_; focus (simp only [evx,List.contains,List.elem,z2,z3,AV.unf,reduceIte,z23]; done)) | (refine W_cF ?_ ?_; focus (simp only [evx,List.contains,List.elem,z2,z3,AV.unf,reduceIte,z23,boolD]; done))) <;> (try simp only [seqK])))
      exact ans_cut (v := .tuple [.d (.agg [.int .i64 0, .int .i64 0, .str [], .slice [], .slice []]), intD 1]) (by simp only [AV.unf,AV.mkAgg,AV.pures,readCells,z2,z3,z7,z8,z9,z10,z11,z13,z14,z15,Option.map,reduceIte,Nat.reduceAdd,z26,z51,resV, gS]; rfl) rfl ⟨rfl, rfl⟩
  · have k1 : kD PS5 = [] := by rw [hq]; rfl
    have k2 : vD PS5 = [] := by rw [hq]; rfl
    simp only [k1, k2] at hgood
    obtain ⟨M, hM⟩ : ∃ M, J2 ++ [AObj.cells [.d (.int .i64 5), .d (.int .i64 0), .d (.str []), .fslice [], .fslice []]] = M := ⟨_, rfl⟩
    have gM : M[J2.length]? = some (.cells [.d (.int .i64 5), .d (.int .i64 0), .d (.str []), .fslice [], .fslice []]) := by rw [← hM]; exact get_last _ _
    have gMr : M[J1.length]? = some (.cells zC) := by rw [← hM]; exact gR _
    have lM : M.length = H.length + 3 := by rw [← hM]; simp [l2]
    have ge3 : H.length ≤ M.length := by omega
    have gX : ∀ o, (M ++ [o])[J2.length]? = some (.cells [.d (.int .i64 5), .d (.int .i64 0), .d (.str []), .fslice [], .fslice []]) := fun o => get_more o gM
    have gXr : ∀ o, (M ++ [o])[J1.length]? = some (.cells zC) := fun o => get_more o gMr
    have gS : ∀ o o' : AObj, ((M ++ [o]).set J1.length o')[J1.length]? = some o' := fun o o' => List.getElem?_set_self (by simp; omega)
    rw [hM] at hgood ⊢
    by_cases hc : limB f = true ∧ allV f = true
    · rw [if_pos hc] at hgood ⊢
      have hv : contentV (some (mapJ PS5)) = .tuple [.d (.agg [.int .i64 5, .int .i64 0, .str [], .slice [], .slice []]), intD 0] := by show AV.tuple [.d (mapJ PS5).d, intD 0] = _; rw [map_d, k1, k2]
      rw [hv]
      unfold parseV at hgood
      simp only [flD] at hgood
      (iterate 1 ((first | refine W_sq ?_ | refine W_bk ?_ | refine W_ret ?_ | refine W_exit ?_ | refine W_skip ?_ | (apply W_rg; focus (intro _; simp only [z0,srcC,AV.growable,AV.owned,evalC,evalR,runOps,stepOp,wanted,aop,evx,put,unflag,binV,nilEq,isShift,binStr,unV,AV.elems,AV.unf,AV.int?,AV.toD,AV.toDs,AV.mkAgg,AV.pures,AV.cells,D.cells,AV.isCell,D.isCell,readCells,readD,optInt,fill,splice,srcOf,z1,List.contains,List.elem,z2,z3,z4,z5,z6,z7,z8,z9,z10,z11,z12,z13,z14,z15,z16,z17,z18,z19,z20,z21,z22,Option.map,intD,boolD,bD,reduceIte,z23,z24,forgetT,Nat.reduceAdd,Nat.reduceLeDiff,Nat.reduceMul,Nat.reduceSub,Nat.reduceEqDiff,Nat.reduceBEq,Nat.reduceBNe,z25,z26,z27,z28,z29,z30,z31,z32,z33,z34,z35,z36,z37,z38,z39,z40,z41,z42,z43,z44,z45,z46,z47,z48,z49,z50,z51,z52,Int.reduceToNat,z53,z54,z55,z56,z57,z58,Int.reduceBEq,Int.reduceBNe,Int.reduceLT,Int.reduceLE,Int.reduceGT,Int.reduceGE,Int.reduceEq,z59,z60,z61,z62,List.reduceReplicate,z63,z64,z65,z66,z67,chunks]; (first | done | exact rfl))) | (refine W_cT ?_ ?_; focus (simp only [evx,List.contains,List.elem,z2,z3,AV.unf,reduceIte,z23,boolD]; done)) | (refine W_cF ?_ ?_; focus (simp only [evx,List.contains,List.elem,z2,z3,AV.unf,reduceIte,z23,boolD]; done))) <;> (try simp only [seqK,blockK,loopK,onlyK,forgetT,put,unflag,z4,z5,z2,z3,AV.unf,reduceIte,Nat.reduceEqDiff,Nat.reduceAdd])))
      refine W_region ?_; apply WO_take 1; (focus (intro _; simp only [runOps,stepOp,wanted,aop,evx,put,unflag,AV.unf,AV.mkAgg,AV.pures,readCells,List.contains,List.elem,z2,z3,z4,z5,z7,z8,z9,z10,z11,z13,z14,z15,Option.map,intD,reduceIte,z23,Nat.reduceAdd,z26,z51,gM]; (first | done | exact rfl))); simp only [List.drop_succ_cons, List.drop_zero]; refine WO_call ?_; simp only [evx, List.map_cons, List.map_nil, List.contains, List.elem, List.getD_cons_succ, List.getD_cons_zero, reduceIte, Bool.false_eq_true, AV.unf, intD]; refine Ev.fn hgood ?_
      (apply WO_end; (focus (intro _; simp only [runOps,stepOp,wanted,aop,evx,put,unflag,AV.unf,AV.cells,D.cells,AV.isCell,D.isCell,splice,List.contains,List.elem,z2,z3,z4,z5,z6,z7,z8,z9,z11,z12,z13,z14,z15,z18,z19,z20,z22,Option.map,intD,reduceIte,z23,Nat.reduceAdd,Nat.reduceBEq,z26,z29,z34,z46,z47,z48,z51,ge3]; (first | done | exact rfl)))) <;> (try simp only [seqK,forgetT,z4,z5])
      (repeat ((first | refine W_sq ?_ | refine W_bk ?_ | refine W_ret ?_ | refine W_exit ?_ | refine W_skip ?_ | (apply W_rg; focus (intro _; simp only [evalR,runOps,stepOp,wanted,aop,evx,put,unflag,binV,isShift,AV.unf,AV.mkAgg,AV.pures,AV.cells,D.cells,AV.isCell,D.isCell,readCells,splice,List.contains,List.elem,z2,z3,z4,z5,z7,z8,z9,z10,z11,z12,z13,z14,z15,z18,z19,z20,z22,Option.map,reduceIte,z23,forgetT,Nat.reduceAdd,Nat.reduceBEq,z26,z29,z30,z34,z48,z51,gX, gXr, b_neq, ge1]; (first | done | exact rfl))) | (refine W_cT ?_ ?_; focus (simp only [evx,List.contains,List.elem,z2,z3,AV.unf,reduceIte,z23]; done)) | (refine W_cF ?_ ?_; focus (simp only [evx,List.contains,List.elem,z2,z3,AV.unf,reduceIte,z23]; done))) <;> (try simp only [seqK])))
      exact ans_cut (v := .tuple [.d (.agg [.int .i64 5, .int .i64 0, .str [], .slice [], .slice []]), intD 0]) (by simp only [AV.unf,AV.mkAgg,AV.pures,readCells,z2,z3,z7,z8,z9,z10,z11,z13,z14,z15,Option.map,reduceIte,Nat.reduceAdd,z26,z51,resV, gS]; rfl) rfl ⟨rfl, rfl⟩
    · rw [if_neg hc] at hgood ⊢
      have hv : contentV none = .tuple [.d (.agg [.int .i64 0, .int .i64 0, .str [], .slice [], .slice []]), intD 1] := by show AV.tuple [.d J.zero.d, intD 1] = _; rw [zero_d]
      rw [hv]
      have hpn : parseV none = .tuple [.d (.agg [.slice [], .slice [], .slice [], .slice [], .int .i64 0]), intD 1] := rfl
      rw [hpn] at hgood
      (iterate 1 ((first | refine W_sq ?_ | refine W_bk ?_ | refine W_ret ?_ | refine W_exit ?_ | refine W_skip ?_ | (apply W_rg; focus (intro _; simp only [z0,srcC,AV.growable,AV.owned,evalC,evalR,runOps,stepOp,wanted,aop,evx,put,unflag,binV,nilEq,isShift,binStr,unV,AV.elems,AV.unf,AV.int?,AV.toD,AV.toDs,AV.mkAgg,AV.pures,AV.cells,D.cells,AV.isCell,D.isCell,readCells,readD,optInt,fill,splice,srcOf,z1,List.contains,List.elem,z2,z3,z4,z5,z6,z7,z8,z9,z10,z11,z12,z13,z14,z15,z16,z17,z18,z19,z20,z21,z22,Option.map,intD,boolD,bD,reduceIte,z23,z24,forgetT,Nat.reduceAdd,Nat.reduceLeDiff,Nat.reduceMul,Nat.reduceSub,Nat.reduceEqDiff,Nat.reduceBEq,Nat.reduceBNe,z25,z26,z27,z28,z29,z30,z31,z32,z33,z34,z35,z36,z37,z38,z39,z40,z41,z42,z43,z44,z45,z46,z47,z48,z49,z50,z51,z52,Int.reduceToNat,z53,z54,z55,z56,z57,z58,Int.reduceBEq,Int.reduceBNe,Int.reduceLT,Int.reduceLE,Int.reduceGT,Int.reduceGE,Int.reduceEq,z59,z60,z61,z62,List.reduceReplicate,z63,z64,z65,z66,z67,chunks]; (first | done | exact rfl))) | (refine W_cT ?_ ?_; focus (simp only [evx,List.contains,List.elem,z2,z3,AV.unf,reduceIte,z23,boolD]; done)) | (refine W_cF ?_ ?_; focus (simp only [evx,List.contains,List.elem,z2,z3,AV.unf,reduceIte,z23,boolD]; done))) <;> (try simp only [seqK,blockK,loopK,onlyK,forgetT,put,unflag,z4,z5,z2,z3,AV.unf,reduceIte,Nat.reduceEqDiff,Nat.reduceAdd])))
      refine W_region ?_; apply WO_take 1; (focus (intro _; simp only [runOps,stepOp,wanted,aop,evx,put,unflag,AV.unf,AV.mkAgg,AV.pures,readCells,List.contains,List.elem,z2,z3,z4,z5,z7,z8,z9,z10,z11,z13,z14,z15,Option.map,intD,reduceIte,z23,Nat.reduceAdd,z26,z51,gM]; (first | done | exact rfl))); simp only [List.drop_succ_cons, List.drop_zero]; refine WO_call ?_; simp only [evx, List.map_cons, List.map_nil, List.contains, List.elem, List.getD_cons_succ, List.getD_cons_zero, reduceIte, Bool.false_eq_true, AV.unf, intD]; refine Ev.fn hgood ?_
      (apply WO_end; (focus (intro _; simp only [runOps,stepOp,wanted,aop,evx,put,unflag,AV.unf,AV.cells,D.cells,AV.isCell,D.isCell,splice,List.contains,List.elem,z2,z3,z4,z5,z6,z7,z8,z9,z11,z12,z13,z14,z15,z18,z19,z20,z22,Option.map,intD,reduceIte,z23,Nat.reduceAdd,Nat.reduceBEq,z26,z29,z34,z46,z47,z48,z51,ge3]; (first | done | exact rfl)))) <;> (try simp only [seqK,forgetT,z4,z5])
      (repeat ((first | refine W_sq ?_ | refine W_bk ?_ | refine W_ret ?_ | refine W_exit ?_ | refine W_skip ?_ | (apply W_rg; focus (intro _; simp only [evalR,runOps,stepOp,wanted,aop,evx,put,unflag,binV,isShift,AV.unf,AV.mkAgg,AV.pures,AV.cells,AV.isCell,D.isCell,fill,splice,List.contains,List.elem,z2,z3,z4,z5,z9,z11,z12,z13,z14,z15,z18,z19,z20,z22,Option.map,reduceIte,z23,forgetT,Nat.reduceAdd,Nat.reduceBEq,z26,z29,z34,z48,z51,Int.reduceBNe,gXr, b_neq, ge1]; (first | done | exact rfl))) | (refine W_cT ?_ ?_; focus (simp only [evx,List.contains,List.elem,z2,z3,AV.unf,reduceIte,z23]; done)) | (refine W_cF ?_ ?_; focus (simp only [evx,List.contains,List.elem,z2,z3,AV.unf,reduceIte,z23,boolD]; done))) <;> (try simp only [seqK])))
      exact ans_cut (v := .tuple [.d (.agg [.int .i64 0, .int .i64 0, .str [], .slice [], .slice []]), intD 1]) (by simp only [AV.unf,AV.mkAgg,AV.pures,readCells,z2,z3,z7,z8,z9,z10,z11,z13,z14,z15,Option.map,reduceIte,Nat.reduceAdd,z26,z51,resV, gS]; rfl) rfl ⟨rfl, rfl⟩

end Go.Proofs.YtoimlfaiibadgaaDoor
