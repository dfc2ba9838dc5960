/- Part 7 of a proof that reads the code abstractly. -/
import Derived.Test.YtmhmjlfajlpabaaDoorPartF
import Derived.KernelRfl
import Derived.Test.YtmhmjlfajlpabaaDoorProg
set_option linter.unusedSimpArgs false
set_option linter.unusedVariables false
set_option linter.all false
set_option maxRecDepth 100000
set_option maxHeartbeats 1000000
set_option linter.unusedVariables false
namespace Go.Proofs.YtmhmjlfajlpabaaDoor
open Go Go.Abs Go.Proofs Go.RowKit Go.Lib
def DRes (g0 : Gh) (w0 : World) (H0 : AHeap) (s : Tx) (e : Ending) (w' : World) : Prop :=
 ∃ v g', e = .returned v ∧ WF g0 w0 g' w' ∧ HeapOK g' H0 w' ∧ VR g' w' (decodeV (decodeS s)) v
abbrev dcl (c : Array Value) : Deferred := { target := .fn (.func 23) c, args := #[] }
def Gh.unres (g : Gh) : Gh := g.relabel .res .mine
theorem wf_unres (g : Gh) (w : World) : WF g w (Gh.unres g) w where
 os := rfl
 tape := rfl
 output := rfl
 size := Nat.le_refl _
 idle x _ ho := by
  have : g.own x ≠ .res := by rcases ho with h | h <;> rw [h] <;> simp
  simp [Gh.unres, Gh.relabel, this]
 stays b i hi := ⟨hi, rfl⟩
 n := Nat.le_refl _
 rho _ _ := rfl
 out x hx := by
  simp only [Gh.unres, Gh.relabel] at hx
  split at hx
  ·cases hx
  ·exact hx
 mine x hx := by simp [Gh.unres, Gh.relabel, hx]
theorem heap_unres {g : Gh} {H : AHeap} {w : World} (h : HeapOK g H w) : HeapOK (Gh.unres g) H w where
 n := h.n
 own r hr ha := by
  obtain ⟨h1, h2⟩ := h.own r hr ha
  exact ⟨by simp [Gh.unres, Gh.relabel, h1], h2⟩
 obj r o ho := by
  have hr : r < g.n := by rw [h.n]; exact (List.getElem?_eq_some_iff.1 ho).1
  exact (h.obj r o ho).keep (wf_unres g w) hr (fun _ => rfl) (fun j a v hf => hf.keep fun x hx => ⟨by simp [Gh.unres, Gh.relabel, hx], rfl, fun cs e fr hh hz => ⟨cs, fr, hh, rfl, hz⟩⟩)
 new x hx := by
  obtain ⟨h1, h2⟩ := h.new x hx
  exact ⟨by simp [Gh.unres, Gh.relabel, h1], h2⟩
 glob n cs hn := (wf_unres g w).vr (h.glob n cs hn)
theorem no_unres (g : Gh) (b : Nat) : (Gh.unres g).own b ≠ .res := by
 simp only [Gh.unres, Gh.relabel]
 split
 ·simp
 ·assumption
theorem Ext.get {lim : Nat} {H H' : AHeap} (h : Ext lim H H') {i : Nat} (hi : i < lim) : H'[i]? = H[i]? := by
 have := congrArg (fun l => l[i]?) h.2
 simpa only [List.getElem?_take, if_pos hi] using this
section
variable {g0 : Gh} {w0 : World} {H0 : AHeap} {s : Tx}
theorem dec_fin [Dfr] (h0 : HeapOK g0 H0 w0) {g : Gh} {st : St} {a : Act} {w : World} (hw : WF g0 w0 g w) (hi : Inv g st a w) {j : D} {e p : Int} (hr : resV st.T st.H [.cell 2 true 5, .cell 3 false 1, .cell 4 false 1] = some [.d j, intD e, intD p]) (hx : Ext H0.length H0 st.H)
  (hd : decodeV (decodeS s) = .tuple [.d j, intD e, intD p]) : ∃ v, (results Tryd.f10 a.tmps).run Tryd.prog w = .ok v w ∧ DRes g0 w0 H0 s (.returned v) w := by
 obtain ⟨v, hv1, hv2, _⟩ := res_one hi res10 hr
 refine ⟨v, hv1, v, g.cut w H0.length, rfl, wf_cut hw h0.n, heap_cut h0 hi.heap hx, ?_⟩
 rw [hd]
 exact freeze_vr hi.heap hv2 rfl
theorem invoke23 (c : Array Value) (w : World) : (invoke (.fn (.func 23) c) #[]).run Tryd.prog w = .ok (.enter 23 c) w := by
 have hf : FnOK Tryd.prog 23 := ⟨_, Tryd.func23, by kernel_rfl, by kernel_rfl⟩
 have := fn_enter hf (#[] ++ c) w
 show (callFunc 23 (#[] ++ c)).run Tryd.prog w = _
 rw [this]; simp
theorem caps_move {g g' : Gh} {w w' : World} {n : Nat} (hw : WF g w g' w') (hl : n + 2 < g.n) : caps g' n = caps g n := by
 simp only [caps, ptrV, hw.rho n (by omega), hw.rho (n + 1) (by omega), hw.rho (n + 2) hl]
theorem Inv.boolD' [Dfr] {g : Gh} {st : St} {a : Act} {w : World} (h : Inv g st a w) {i : Nat} {b : Bool} (hT : st.T.getD i .undef = boolD b) : a.eval (.tmp i) = .bool b := by
 have := (slot_get h i).1
 rw [hT] at this
 show a.tmps.getD i undef = _
 generalize a.tmps.getD i undef = v at this
 cases this with
 | d _ _ h => cases h; rfl
theorem Inv.ptrD [Dfr] {g : Gh} {st : St} {a : Act} {w : World} (h : Inv g st a w) {i n : Nat} (hT : st.T.getD i .undef = .ptr n 0) : a.eval (.tmp i) = .pointer (some ⟨g.rho n, 0, none⟩) := by
 have := (slot_get h i).1
 rw [hT] at this
 show a.tmps.getD i undef = _
 generalize a.tmps.getD i undef = v at this
 cases this; rfl
theorem Inv.numD [Dfr] {g : Gh} {st : St} {a : Act} {w : World} (h : Inv g st a w) {i : Nat} {k : IntKind} {n : Int} (hT : st.T.getD i .undef = .d (.int k n)) : a.eval (.tmp i) = .int k n := by
 have := (slot_get h i).1
 rw [hT] at this
 show a.tmps.getD i undef = _
 generalize a.tmps.getD i undef = v at this
 cases this with
 | d _ _ h => cases h; rfl
theorem Inv.funcD [Dfr] {g : Gh} {st : St} {a : Act} {w : World} (h : Inv g st a w) {i n : Nat} (hT : st.T.getD i .undef = .func (.func 23) [.ptr n 0, .ptr (n + 1) 0, .ptr (n + 2) 0]) : a.eval (.tmp i) = .func (.func 23) #[] (caps g n) := by
 have := (slot_get h i).1
 rw [hT] at this
 show a.tmps.getD i undef = _
 generalize a.tmps.getD i undef = v at this
 cases this with
 | func _ _ vs hl h ht =>
  congr 1
  apply Array.ext
  ·simpa using hl.symm
  ·intro k hk1 hk2
   simp only [caps, List.size_toArray, List.length_cons, List.length_nil] at hk2
   have h1 : vs[k]? = some vs[k] := Array.getElem?_eq_getElem hk1
   match k, hk2 with
   | 0, _ => have := h 0 _ _ rfl h1; generalize vs[0] = u at this; cases this; rfl
   | 1, _ => have := h 1 _ _ rfl h1; generalize vs[1] = u at this; cases this; rfl
   | 2, _ => have := h 2 _ _ rfl h1; generalize vs[2] = u at this; cases this; rfl
abbrev tail44 : List AV := List.replicate 44 .undef
theorem dec_stop [Dfr] (hS : EnvS Tryd.prog pf X0 XP) (h0 : HeapOK g0 H0 w0) {c : Array Value} (hd : Dfr.ds = [dcl c]) {g : Gh} {T : List AV} {a : Act} {w : World} {c1 c2 c3 c4 c5 : AV} {a1 b1 : Int} {o : AObj} (hw : WF g0 w0 g w) (hc : caps g H0.length = c)
  (hi : Inv g ⟨T, H0 ++ [.cells [c1, c2, c3, c4, c5], nO a1, nO b1, o]⟩ a w) (hT : T.length = 49) (hT2 : T[2]? = some (.ptr H0.length 0)) (hT3 : T[3]? = some (.ptr (H0.length + 1) 0)) (hT4 : T[4]? = some (.ptr (H0.length + 2) 0))
  {g' : Gh} {H' : AHeap} {w' : World} {v : Value} {e p : Nat} (hw' : WF g w g' w') (hx : Ext (H0.length + 3) (H0 ++ [.cells [c1, c2, c3, c4, c5], nO a1, nO b1, o]) H') (hH' : HeapOK g' H' w') (hv : VR g' w' (.d (.agg [.int .i64 e, .int .i64 p])) v) (hds : decodeS s = .error (e, p)) :
  Leaves Tryd.prog Tryd.f10 a.tmps (DRes g0 w0 H0 s) a.defers (.panicking [{ v := .iface 45 v, recovered := false }]) w' := by
 obtain ⟨K, kk, k1, k2, k3, k4, _⟩ := four H0
 rw [← kk] at hi hx
 have hgn : g.n = H0.length + 4 := by rw [hi.heap.n, kk]; simp
 have hw1 := hw'.trans (wf_unres g' w')
 have hH1 := heap_unres hH'
 have hgn1 : H0.length + 2 < (Gh.unres g').n := Nat.lt_of_lt_of_le (by omega) hw1.n
 rw [hi.defers, hd]
 have o1 := (Ext.get hx (show H0.length < H0.length + 3 by omega)).trans (k1 _ _ _ _)
 have o2 := (Ext.get hx (show H0.length + 1 < H0.length + 3 by omega)).trans (k2 _ _ _ _)
 have o3 := (Ext.get hx (show H0.length + 2 < H0.length + 3 by omega)).trans (k3 _ _ _ _)
 have hlen := hx.1
 rw [kk] at hlen
 simp only [List.length_append, List.length_cons, List.length_nil] at hlen
 refine leaves_cons (f := 23) (args := c) (by simp) (invoke23 c _) ?_
 rw [← hc, ← caps_move hw1 (by omega)]
 refine (catch_pan hS hH1 (no_unres g') hgn1 o1 o2 o3 ((wf_unres g' w').vr hv)).mono ?_
 rintro z u' w2 ⟨⟨v2, rfl⟩, hu, g2, hw2, hH2, hn2⟩
 show Leaves Tryd.prog Tryd.f10 a.tmps (DRes g0 w0 H0 s) [] (settle u') w2
 rw [hu]
 have hwk := Inv.weak hi (T := [.undef, .undef, .ptr H0.length 0, .ptr (H0.length + 1) 0, .ptr (H0.length + 2) 0] ++ tail44) (by rw [hT]; rfl) fun i x hx => by
  match i, hx with
  | 0, hx => cases hx; exact .inl rfl
  | 1, hx => cases hx; exact .inl rfl
  | 2, hx => cases hx; exact .inr hT2
  | 3, hx => cases hx; exact .inr hT3
  | 4, hx => cases hx; exact .inr hT4
  | k + 5, hx =>
   have : tail44[k]? = some x := hx
   exact .inl (List.eq_of_mem_replicate (List.mem_of_getElem? this))
 have him := Inv.move hwk (hw1.trans hw2) hH2 hn2 fun x hx xs => by
  rcases List.mem_append.1 hx with h | h
  ·simp only [List.mem_cons, List.not_mem_nil, or_false] at h
   rcases h with rfl | rfl | rfl | rfl | rfl <;> simp
  ·rw [List.eq_of_mem_replicate h]; simp
 have s1 : (stopH H' H0.length e p)[H0.length]? = some zO := by
  unfold stopH
  rw [List.getElem?_set_ne (by omega), List.getElem?_set_ne (by omega), List.getElem?_set_self (by simp; omega)]
 have s2 : (stopH H' H0.length e p)[H0.length + 1]? = some (nO e) := by
  unfold stopH
  rw [List.getElem?_set_ne (by omega), List.getElem?_set_self (by simp; omega)]
 have s3 : (stopH H' H0.length e p)[H0.length + 2]? = some (nO p) := by
  unfold stopH
  rw [List.getElem?_set_self (by simp; omega)]
 refine dec_fin h0 (hw.trans (hw1.trans hw2)) him (j := J.zero.d) (e := e) (p := p) ?_ ?_ (by rw [hds])
 ·simp only [resV, List.cons_append, List.nil_append, List.getD_cons_succ, List.getD_cons_zero, s1, s2, s3]
  rfl
 ·refine ⟨by simp [stopH]; omega, ?_⟩
  have e1 : (stopH H' H0.length e p).take H0.length = H'.take H0.length := by
   unfold stopH
   rw [List.take_set_of_le (by omega), List.take_set_of_le (by omega), List.take_set_of_le (by omega), List.take_append_of_le_length (by omega)]
  have e2 := (Ext.less hx (show H0.length ≤ H0.length + 3 by omega)).2
  rw [e1, e2, kk, List.take_append_of_le_length (Nat.le_refl _)]
end
end Go.Proofs.YtmhmjlfajlpabaaDoor
set_option maxRecDepth 100000
set_option maxHeartbeats 2000000
set_option linter.unusedVariables false
namespace Go.Proofs.YtmhmjlfajlpabaaDoor
open Go Go.Abs Go.Proofs Go.RowKit Go.Lib
abbrev D5 (n : Nat) (x : Nat → AV) : List AV := [x 0, x 1, .ptr n 0, .ptr (n + 1) 0, .ptr (n + 2) 0, .ptr (n + 3) 0, x 6, x 7, x 8, x 9, x 10, x 11, x 12, x 13, x 14, x 15, x 16, x 17, x 18, x 19, x 20, x 21, x 22, x 23, x 24, x 25, x 26, x 27, x 28, x 29, x 30, x 31, x 32, x 33, x 34, x 35, x 36, x 37, x 38, x 39, x 40, x 41, x 42, x 43, x 44, x 45, x 46, x 47, x 48]
noncomputable abbrev restC : Code := .seq p10_8 (.seq p10_9 (.seq p10_10 (.seq (.seq p10_11 (.cond (.tmp 40) p10_12 .skip)) (.seq p10_13 .ret))))
section
variable {g0 : Gh} {w0 : World} {H0 : AHeap} {s : Tx}
theorem Ext4 {H0 K : AHeap} {lim : Nat} (h : lim ≤ H0.length) (l : List AObj) : Ext lim H0 (H0 ++ l) := ⟨by simp, List.take_append_of_le_length h⟩
theorem dec_rest [Dfr] (hS : EnvS Tryd.prog pf X0 XP) (h0 : HeapOK g0 H0 w0) {c : Array Value} (hd : Dfr.ds = [dcl c]) (hs : s.length ≤ 16384) (hbr : ¬ 0 ≤ brokenN s) {g : Gh} {a : Act} {w : World} {x : Nat → AV} (hw : WF g0 w0 g w) (hc : caps g H0.length = c)
  (hi : Inv g ⟨D5 H0.length x, H0 ++ [zO, nO 0, nO 0, rdO s (0 : Nat)]⟩ a w) : restC.wp Tryd.prog (bodyPostD Tryd.prog Tryd.f10 (DRes g0 w0 H0 s)) a w := by
 have hll : ∀ (a b c d : AObj), H0.length ≤ (H0 ++ [a, b, c, d]).length := fun _ _ _ _ => by simp
 have hll3 : ∀ (a b c d : AObj), H0.length + 3 ≤ (H0 ++ [a, b, c, d]).length := fun _ _ _ _ => by simp
 have hgn : ∀ {g : Gh} {T : List AV} {a b c d : AObj} {ac : Act} {w : World}, Inv g ⟨T, H0 ++ [a, b, c, d]⟩ ac w → H0.length + 2 < g.n := fun h => by rw [h.heap.n]; simp
 refine wp_seq (V_wp hS k10_8 rfl hi (hll _ _ _ _) (v10_8 x (by omega) hs) ?_ (fun _ h => h.elim))
 rintro z st1 g1 a1 w1 ⟨rfl, x1, rfl⟩ hw1 hi1 hx1
 have hc1 := (caps_move hw1 (hgn hi)).trans hc
 have hb0 := (blanks_le' s 0).2 (Nat.zero_le _)
 generalize hp : blanksS s 0 = p at hi1 hb0
 have hval := (value_all (2 * s.length + 3)) (H0.length + 3) (H0 ++ [zO, nO 0, nO 0, rdO s p]) (H0.length + 3) s p 1 (by rw [List.getElem?_append_right (by omega)]; simp) (Nat.le_refl _) hs hb0 (by omega) (by omega)
 have hds : decodeS s = match valueS s (2 * s.length + 3) 1 p with
  | .error e => .error e
  | .ok (j, q) => if blanksS s q < s.length then .error (16, blanksS s q) else .ok (orderJ j) := by
  unfold decodeS
  rw [if_neg (by omega), if_neg hbr, hp]
  cases valueS s (2 * s.length + 3) 1 p with
  | error e => rfl
  | ok y => rfl
 show Code.wp Tryd.prog (.seq p10_9 _) _ a1 w1
 cases hv : valueS s (2 * s.length + 3) 1 p with
 | error er =>
  rw [hv] at hds
  have hP := hval.noJ hv
  unfold EvP at hP
  obtain ⟨k0, hP⟩ := hP
  rw [r9x_eq]
  refine wp_seq (wp_region_list ?_)
  refine list_step (lim := H0.length) (E := X0 0) c9_0 (hS.e 0) hi1 (hll _ _ _ _) (show stepOp _ _ _ _ = some ⟨(D5 H0.length x1).set 27 (.ptr (H0.length + 3) 0), _⟩ from rfl) ?_
  intro g2 a2 w2 hw2 hi2 hx2
  obtain ⟨hf, hcall⟩ := hS.p k0 25 (H0.length + 3) [.ptr (H0.length + 3) 0, intD ((1 : Nat) : Int)] _ _ _ (hP k0 (Nat.le_refl _)) (hll3 _ _ _ _)
  have hvals : (#[Operand.tmp 27, .const (.int .i64 1)].map a2.eval) = #[a2.eval (.tmp 27), .int .i64 1] := by simp [Act.eval]
  refine hand_panic o9_1.2 o9_1.1 hf (hcall (#[Operand.tmp 27, .const (.int .i64 1)].map a2.eval) g2 w2 hi2.heap hi2.nores (by simp) ?_) ?_
  ·rw [hvals, Inv.ptrD (n := H0.length + 3) hi2 rfl]
   intro i y u hy hu
   match i, hy, hu with
   | 0, hy, hu => cases hy; cases hu; exact ⟨.ptr _ _ (by rw [hi2.heap.n]; simp), fun xs e => by cases e⟩
   | 1, hy, hu => cases hy; cases hu; exact ⟨.d _ _ (.int _ _), Triv.d _ _⟩
   | k + 2, hy, hu => simp at hy
  ·rintro e w' ⟨v, g', H', rfl, hw', hx', hH', hv'⟩
   refine ⟨_, rfl, ?_⟩
   have hc2 := (caps_move hw2 (hgn hi1)).trans hc1
   exact dec_stop hS h0 hd ((hw.trans hw1).trans hw2) hc2 hi2 rfl rfl rfl rfl hw' hx' hH' hv' hds
 | ok y =>
  obtain ⟨j, q⟩ := y
  rw [hv] at hds
  simp only at hds
  have hvl := value_lt hv
  have hbq := (blanks_le' s q).2 hvl.2
  obtain ⟨⟨no, hno⟩, hnw⟩ := value_ord hv
  refine wp_seq (V_wp hS k10_9 rfl hi1 (hll _ _ _ _) (v10_9 x1 (Nat.le_refl _) hs hb0 hv) ?_ (fun _ h => h.elim))
  rintro z st2 g2 a2 w2 ⟨rfl, x2, rfl⟩ hw2 hi2 hx2
  have hc2 := (caps_move hw2 (hgn hi1)).trans hc1
  show Code.wp Tryd.prog (.seq p10_10 _) _ a2 w2
  refine wp_seq (V_wp hS k10_10 rfl hi2 (hll _ _ _ _) (v10_10 x2 (by omega) hs hvl.2) ?_ (fun _ h => h.elim))
  rintro z st3 g3 a3 w3 ⟨rfl, x3, rfl⟩ hw3 hi3 hx3
  have hc3 := (caps_move hw3 (hgn hi2)).trans hc2
  generalize hbs : blanksS s q = q' at hi3 hds hbq
  show Code.wp Tryd.prog (.seq (.seq p10_11 _) _) _ a3 w3
  refine wp_seq (wp_seq (V_wp hS k10_11 rfl hi3 (hll _ _ _ _) (v10_11 (lim := H0.length) x3) ?_ (fun _ h => h.elim)))
  rintro z st4 g4 a4 w4 ⟨rfl, x, rfl⟩ hw4 hi4 hx4
  have hc4 := (caps_move hw4 (hgn hi3)).trans hc3
  show Code.wp Tryd.prog (.cond (.tmp 40) _ _) _ a4 w4
  refine wp_cond (Inv.boolD' (b := decide (q' < s.length)) hi4 rfl) ?_
  by_cases hq : q' < s.length
  ·rw [if_pos hq] at hds
   rw [decide_eq_true hq, if_pos rfl]
   have hP := stop_ev (pr := prims0) (pP := primsP) (H0.length + 3) (H0 ++ [jO j, nO 0, nO 0, rdO s q']) (H0.length + 3) 16 q'
   unfold EvP at hP
   obtain ⟨k0, hP⟩ := hP
   rw [r12x_eq]
   refine wp_region_list ?_
   have gk : (H0 ++ [jO j, nO 0, nO 0, rdO s q'])[H0.length + 3]? = some (rdO s q') := by rw [List.getElem?_append_right (by omega)]; simp
   refine list_step (lim := H0.length) (E := X0 0) c12_0 (hS.e 0) hi4 (hll _ _ _ _) (st' := ⟨[x 0, x 1, .ptr H0.length 0, .ptr (H0.length + 1) 0, .ptr (H0.length + 2) 0, .ptr (H0.length + 3) 0, x 6, x 7, x 8, x 9, x 10, x 11, x 12, x 13, x 14, x 15, x 16, x 17, x 18, x 19, x 20, x 21, x 22, x 23, x 24, x 25, x 26, x 27, x 28, x 29, x 30, x 31, x 32, x 33, x 34, x 35, x 36, x 37, x 38, x 39, boolD (decide (q' < s.length)), .ptr (H0.length + 3) 0, x 42, x 43, x 44, x 45, x 46, x 47, x 48], _⟩) rfl ?_
   intro g5 a5 w5 hw5 hi5 hx5
   refine list_step (lim := H0.length) (E := X0 0) c12_1 (hS.e 0) hi5 (hll _ _ _ _) (st' := ⟨[x 0, x 1, .ptr H0.length 0, .ptr (H0.length + 1) 0, .ptr (H0.length + 2) 0, .ptr (H0.length + 3) 0, x 6, x 7, x 8, x 9, x 10, x 11, x 12, x 13, x 14, x 15, x 16, x 17, x 18, x 19, x 20, x 21, x 22, x 23, x 24, x 25, x 26, x 27, x 28, x 29, x 30, x 31, x 32, x 33, x 34, x 35, x 36, x 37, x 38, x 39, boolD (decide (q' < s.length)), .ptr (H0.length + 3) 0, .ptr (H0.length + 3) 0, x 43, x 44, x 45, x 46, x 47, x 48], _⟩) rfl ?_
   intro g6 a6 w6 hw6 hi6 hx6
   refine list_step (lim := H0.length) (E := X0 0) c12_2 (hS.e 0) hi6 (hll _ _ _ _) (st' := ⟨[x 0, x 1, .ptr H0.length 0, .ptr (H0.length + 1) 0, .ptr (H0.length + 2) 0, .ptr (H0.length + 3) 0, x 6, x 7, x 8, x 9, x 10, x 11, x 12, x 13, x 14, x 15, x 16, x 17, x 18, x 19, x 20, x 21, x 22, x 23, x 24, x 25, x 26, x 27, x 28, x 29, x 30, x 31, x 32, x 33, x 34, x 35, x 36, x 37, x 38, x 39, boolD (decide (q' < s.length)), .ptr (H0.length + 3) 0, .ptr (H0.length + 3) 0, .ptr (H0.length + 3) 0, x 44, x 45, x 46, x 47, x 48], _⟩) rfl ?_
   intro g7 a7 w7 hw7 hi7 hx7
   refine list_step (lim := H0.length) (E := X0 0) c12_3 (hS.e 0) hi7 (hll _ _ _ _) (st' := ⟨[x 0, x 1, .ptr H0.length 0, .ptr (H0.length + 1) 0, .ptr (H0.length + 2) 0, .ptr (H0.length + 3) 0, x 6, x 7, x 8, x 9, x 10, x 11, x 12, x 13, x 14, x 15, x 16, x 17, x 18, x 19, x 20, x 21, x 22, x 23, x 24, x 25, x 26, x 27, x 28, x 29, x 30, x 31, x 32, x 33, x 34, x 35, x 36, x 37, x 38, x 39, boolD (decide (q' < s.length)), .ptr (H0.length + 3) 0, .ptr (H0.length + 3) 0, .ptr (H0.length + 3) 0, .ptr (H0.length + 3) 1, x 45, x 46, x 47, x 48], _⟩) rfl ?_
   intro g8 a8 w8 hw8 hi8 hx8
   refine list_step (lim := H0.length) (E := X0 0) c12_4 (hS.e 0) hi8 (hll _ _ _ _) (st' := ⟨[x 0, x 1, .ptr H0.length 0, .ptr (H0.length + 1) 0, .ptr (H0.length + 2) 0, .ptr (H0.length + 3) 0, x 6, x 7, x 8, x 9, x 10, x 11, x 12, x 13, x 14, x 15, x 16, x 17, x 18, x 19, x 20, x 21, x 22, x 23, x 24, x 25, x 26, x 27, x 28, x 29, x 30, x 31, x 32, x 33, x 34, x 35, x 36, x 37, x 38, x 39, boolD (decide (q' < s.length)), .ptr (H0.length + 3) 0, .ptr (H0.length + 3) 0, .ptr (H0.length + 3) 0, .ptr (H0.length + 3) 1, intD q', x 46, x 47, x 48], H0 ++ [jO j, nO 0, nO 0, rdO s q']⟩) ?_ ?_
   ·simp only [zz,simprocAttr,gk]
   intro g9 a9 w9 hw9 hi9 hx9
   obtain ⟨hf, hcall⟩ := hS.p k0 26 (H0.length + 3) [.ptr (H0.length + 3) 0, intD ((16 : Nat) : Int), intD q'] _ _ _ (hP k0 (Nat.le_refl _)) (hll3 _ _ _ _)
   have hvals : (#[Operand.tmp 41, .const (.int .i64 16), .tmp 45].map a9.eval) = #[a9.eval (.tmp 41), .int .i64 16, a9.eval (.tmp 45)] := by simp [Act.eval]
   have hw49 := ((((hw5.trans hw6).trans hw7).trans hw8).trans hw9)
   have hc9 := (caps_move hw49 (hgn hi4)).trans hc4
   refine hand_panic o12_5.2 o12_5.1 hf (hcall (#[Operand.tmp 41, .const (.int .i64 16), .tmp 45].map a9.eval) g9 w9 hi9.heap hi9.nores (by simp) ?_) ?_
   ·rw [hvals, Inv.ptrD (n := H0.length + 3) hi9 rfl, Inv.numD (k := .i64) (n := q') hi9 rfl]
    intro i y u hy hu
    match i, hy, hu with
    | 0, hy, hu => cases hy; cases hu; exact ⟨.ptr _ _ (by rw [hi9.heap.n]; simp), fun xs e => by cases e⟩
    | 1, hy, hu => cases hy; cases hu; exact ⟨.d _ _ (.int _ _), Triv.d _ _⟩
    | 2, hy, hu => cases hy; cases hu; exact ⟨.d _ _ (.int _ _), Triv.d _ _⟩
    | k + 3, hy, hu => simp at hy
   ·rintro e w' ⟨v, g', H', rfl, hw', hx', hH', hv'⟩
    refine ⟨_, rfl, ?_⟩
    exact dec_stop hS h0 hd (((((hw.trans hw1).trans hw2).trans hw3).trans hw4).trans hw49) hc9 hi9 rfl rfl rfl rfl hw' hx' hH' hv' hds
  ·rw [if_neg hq] at hds
   rw [decide_eq_false hq, if_neg (by simp)]
   refine wp_skip ?_
   show Code.wp Tryd.prog (.seq p10_13 .ret) _ a4 w4
   refine wp_seq (V_wp hS k10_13 rfl hi4 (hll _ _ _ _) (v10_13 (fun i => if i = 40 then boolD (decide (q' < s.length)) else x i) (Nat.le_refl _) hno (by omega)) ?_ (fun _ h => h.elim))
   rintro z st5 g5 a5 w5 ⟨rfl, x5, rfl⟩ hw5 hi5 hx5
   have hc5 := (caps_move hw5 (hgn hi4)).trans hc4
   refine wp_ret ?_
   show Leaves Tryd.prog Tryd.f10 a5.tmps (DRes g0 w0 H0 s) a5.defers .returning w5
   rw [hi5.defers, hd]
   refine leaves_cons (f := 23) (args := c) (by simp) (invoke23 c _) ?_
   rw [← hc5]
   refine (catch_idle hS hi5.heap hi5.nores (hgn hi5)).mono ?_
   rintro z u' w6 ⟨⟨v2, rfl⟩, rfl, g6, hw6, hH6, hn6⟩
   show Leaves Tryd.prog Tryd.f10 a5.tmps (DRes g0 w0 H0 s) [] .returning w6
   have hwk := Inv.weak hi5 (T := [.undef, .undef, .ptr H0.length 0, .ptr (H0.length + 1) 0, .ptr (H0.length + 2) 0] ++ tail44) rfl fun i x hx => by
    match i, hx with
    | 0, hx => cases hx; exact .inl rfl
    | 1, hx => cases hx; exact .inl rfl
    | 2, hx => cases hx; exact .inr rfl
    | 3, hx => cases hx; exact .inr rfl
    | 4, hx => cases hx; exact .inr rfl
    | k + 5, hx =>
     have : tail44[k]? = some x := hx
     exact .inl (List.eq_of_mem_replicate (List.mem_of_getElem? this))
   have him := Inv.move hwk hw6 hH6 hn6 fun x hx xs => by
    rcases List.mem_append.1 hx with h | h
    ·simp only [List.mem_cons, List.not_mem_nil, or_false] at h
     rcases h with rfl | rfl | rfl | rfl | rfl <;> simp
    ·rw [List.eq_of_mem_replicate h]; simp
   refine dec_fin h0 (((((hw.trans hw1).trans hw2).trans hw3).trans hw4).trans hw5 |>.trans hw6) him (j := (orderJ j).d) (e := 0) (p := 0) ?_ (Ext4 (K := H0) (Nat.le_refl _) _) (by rw [hds])
   obtain ⟨K, kk, k1, k2, k3, k4, _⟩ := four H0
   rw [← kk, jd]
   simp only [resV, List.cons_append, List.nil_append, List.getD_cons_succ, List.getD_cons_zero, k1, k2, k3]
   rfl
theorem dec_ret (h0 : HeapOK g0 H0 w0) {g : Gh} {st : St} {a : Act} {w : World} (hw : WF g0 w0 g w) (hi : Inv g st a w) {j : D} {e p : Int} (hr : resV st.T st.H [.cell 2 true 5, .cell 3 false 1, .cell 4 false 1] = some [.d j, intD e, intD p]) (hx : Ext H0.length H0 st.H)
  (hd : decodeV (decodeS s) = .tuple [.d j, intD e, intD p]) : Leaves Tryd.prog Tryd.f10 a.tmps (DRes g0 w0 H0 s) a.defers .returning w := by
 rw [hi.defers]
 exact dec_fin h0 hw hi hr hx hd
theorem dec_calls (hS : EnvS Tryd.prog pf X0 XP) (h0 : HeapOK g0 H0 w0) (hn : ∀ b, g0.own b ≠ .res) {v0 : AV} (hb : bytesA H0 v0 = some s) {vals : Array Value} (hv0 : 1 = vals.size) (hv : ∀ (i : Nat) x v, [v0][i]? = some x → vals[i]? = some v → VR g0 w0 x v ∧ FOK g0 w0 (.slot i) x v) :
  Calls Tryd.prog 10 vals w0 (DRes g0 w0 H0 s) := by
 refine calls_of_wp_defers Tryd.func10 body10 ?_
 rw [nt10, b10_eq]
 have hll0 : H0.length ≤ H0.length := Nat.le_refl _
 have hll3 : ∀ (a b c : AObj), H0.length ≤ (H0 ++ [a, b, c]).length := fun _ _ _ => by simp
 have hll : ∀ (a b c d : AObj), H0.length ≤ (H0 ++ [a, b, c, d]).length := fun _ _ _ _ => by simp
 have hi0 : Inv g0 ⟨_, H0⟩ { tmps := vals ++ Array.replicate (49 - vals.size) undef, defers := [] } w0 := inv_start (args := [v0]) h0 hn hv0 hv 49
 refine wp_seq (V_wp hS k10_0 rfl hi0 hll0 (v10_0 (fun _ => .tuple [])) ?_ (fun _ h => h.elim))
 rintro z st1 g1 a1 w1 ⟨rfl, x1, rfl⟩ hw1 hi1 hx1
 show Code.wp Tryd.prog (.seq (.seq p10_1 _) _) _ a1 w1
 refine wp_seq (wp_seq (V_wp hS k10_1 rfl hi1 (hll3 _ _ _) (v10_1 (lim := H0.length) (K := H0 ++ [zO, nO 0, nO 0]) (n := H0.length) x1 hb) ?_ (fun _ h => h.elim)))
 rintro z st2 g2 a2 w2 ⟨rfl, x2, rfl⟩ hw2 hi2 hx2
 show Code.wp Tryd.prog (.cond (.tmp 9) _ _) _ a2 w2
 refine wp_cond (Inv.boolD' (b := decide (16384 < s.length)) hi2 rfl) ?_
 by_cases hs : 16384 < s.length
 ·have hds : decodeS s = .error (13, 16384) := by unfold decodeS; rw [if_pos hs]
  rw [decide_eq_true hs, if_pos rfl]
  refine wp_seq (V_wp hS k10_2 rfl hi2 (hll3 _ _ _) (v10_2 (fun i => if i = 0 then v0 else if i = 9 then boolD (decide (16384 < s.length)) else x2 i) hll0) ?_ (fun _ h => h.elim))
  rintro z st3 g3 a3 w3 ⟨rfl, x3, rfl⟩ hw3 hi3 hx3
  refine wp_ret ?_
  refine dec_ret h0 ((hw1.trans hw2).trans hw3) hi3 (j := J.zero.d) (e := 13) (p := 16384) ?_ (Ext4 (K := H0) (Nat.le_refl _) _) (by rw [hds]; rfl)
  obtain ⟨K, kk, k1, k2, k3, _⟩ := three H0
  rw [← kk]
  simp only [resV, List.getD_cons_succ, List.getD_cons_zero, k1, k2, k3]
  rfl
 have hs' : s.length ≤ 16384 := by omega
 rw [decide_eq_false hs, if_neg (by simp)]
 refine wp_skip ?_
 show Code.wp Tryd.prog (.seq p10_3 _) _ a2 w2
 refine wp_seq (V_wp hS k10_3 rfl hi2 (hll3 _ _ _) (v10_3 (fun i => if i = 9 then boolD (decide (16384 < s.length)) else x2 i) hb) ?_ (fun _ h => h.elim))
 rintro z st3 g3 a3 w3 ⟨rfl, x3, rfl⟩ hw3 hi3 hx3
 show Code.wp Tryd.prog (.seq (.seq p10_4 _) _) _ a3 w3
 refine wp_seq (wp_seq (V_wp hS k10_4 rfl hi3 (hll _ _ _ _) (v10_4 (lim := H0.length) x3 hs') ?_ (fun _ h => h.elim)))
 rintro z st4 g4 a4 w4 ⟨rfl, x4, rfl⟩ hw4 hi4 hx4
 show Code.wp Tryd.prog (.seq p10_5 _) _ a4 w4
 refine wp_seq (V_wp hS k10_5 rfl hi4 (hll _ _ _ _) (v10_5 (lim := H0.length) (K := H0 ++ [zO, nO 0, nO 0, rdO s (0 : Nat)]) (n := H0.length) (b := brokenN s) x4) ?_ (fun _ h => h.elim))
 rintro z st5 g5 a5 w5 ⟨rfl, x5, rfl⟩ hw5 hi5 hx5
 show Code.wp Tryd.prog (.cond (.tmp 21) _ _) _ a5 w5
 refine wp_cond (Inv.boolD' (b := decide (brokenN s ≥ 0)) hi5 rfl) ?_
 have hw15 := (((hw1.trans hw2).trans hw3).trans hw4).trans hw5
 by_cases hbr : 0 ≤ brokenN s
 ·have hds : decodeS s = .error (10, (brokenN s).toNat) := by unfold decodeS; rw [if_neg hs, if_pos hbr]
  have hnb : ((brokenN s).toNat : Int) = brokenN s := by omega
  rw [decide_eq_true hbr, if_pos rfl]
  refine wp_seq (V_wp hS k10_6 rfl hi5 (hll _ _ _ _) (v10_6 (s := s) (fun i => if i = 21 then boolD (decide (brokenN s ≥ 0)) else x5 i) hll0) ?_ (fun _ h => h.elim))
  rintro z st6 g6 a6 w6 ⟨rfl, x6, rfl⟩ hw6 hi6 hx6
  refine wp_ret ?_
  refine dec_ret h0 (hw15.trans hw6) hi6 (j := J.zero.d) (e := 10) (p := brokenN s) ?_ (Ext4 (K := H0) (Nat.le_refl _) _) (by rw [hds]; show AV.tuple [_, _, intD ((brokenN s).toNat : Int)] = _; rw [hnb]; rfl)
  obtain ⟨K, kk, k1, k2, k3, k4, _⟩ := four H0
  rw [← kk]
  simp only [resV, List.getD_cons_succ, List.getD_cons_zero, k1, k2, k3]
  rfl
 rw [decide_eq_false hbr, if_neg (by simp)]
 refine wp_skip ?_
 show Code.wp Tryd.prog (.seq p10_7 restC) _ a5 w5
 rw [r7x_eq]
 refine wp_seq (wp_region_list ?_)
 refine list_step (lim := H0.length) (E := X0 0) c7_0 (hS.e 0) hi5 (hll _ _ _ _) (show stepOp _ _ _ _ = some ⟨(D5 H0.length fun i => if i = 6 then intD (brokenN s) else if i = 21 then boolD (decide (brokenN s ≥ 0)) else x5 i).set 24 (.func (.func 23) [.ptr H0.length 0, .ptr (H0.length + 1) 0, .ptr (H0.length + 2) 0]), _⟩ from rfl) ?_
 intro g6 a6 w6 hw6 hi6 hx6
 refine hand_defer o7_1.2.1 o7_1.1 (f := 23) (cap := caps g6 H0.length) (Inv.funcD (n := H0.length) hi6 rfl) ?_
 rw [o7_1.2.2]
 refine @dec_rest g0 w0 H0 s ⟨[dcl (caps g6 H0.length)]⟩ hS h0 (caps g6 H0.length) rfl hs' hbr g6 _ w6 (fun i => if i = 6 then intD (brokenN s) else if i = 21 then boolD (decide (brokenN s ≥ 0)) else if i = 24 then .func (.func 23) [.ptr H0.length 0, .ptr (H0.length + 1) 0, .ptr (H0.length + 2) 0] else x5 i) (hw15.trans hw6) rfl ?_
 exact @Go.Abs.Inv.mk tabs ⟨[dcl (caps g6 H0.length)]⟩ _ _ _ _ hi6.heap hi6.size hi6.tok hi6.nores (by show _ :: a6.defers = _; rw [hi6.defers]; rfl)
theorem decode_sound : FSound Tryd.prog 10 decodeF := by
 intro lim args H a H' h hlim
 unfold decodeF at h
 split at h
 ·rename_i v0
  simp only [Option.map_eq_some_iff] at h
  obtain ⟨s, hb, h⟩ := h
  simp only [Prod.mk.injEq] at h
  obtain ⟨rfl, rfl⟩ := h
  refine ⟨Ext.refl _ _, fun vals g w hH hn hv0 hv => .inl ⟨fn10, (dec_calls hS0 hH hn hb hv0 hv).mono ?_⟩⟩
  rintro e w' ⟨v, g', rfl, h1, h2, h3⟩
  refine ⟨v, g', rfl, h1, h2, h3, FOK.ne ?_⟩
  cases decodeS s <;> simp [decodeV]
 ·cases h
end
end Go.Proofs.YtmhmjlfajlpabaaDoor
set_option maxRecDepth 1000000
namespace Go.Proofs.YtmhmjlfajlpabaaDoor
open Go Go.Abs
theorem awake_run : envN code primsD 60 11 0 [] [] = some (boolD true, []) := by kernel_rfl
end Go.Proofs.YtmhmjlfajlpabaaDoor
set_option maxRecDepth 100000
namespace Go.Proofs.YtmhmjlfajlpabaaDoor
open Go Go.Abs
theorem primsD_ok : ∀ f F, primsD f = some F → FSound Tryd.prog f F := fun f F h => by
 unfold primsD at h
 split at h
 ·rename_i hf; subst hf; cases h; exact decode_sound
 ·exact prims0_ok f F h
theorem awake_sound : FSound Tryd.prog 11 awakeF :=
 closed_sound (d := .bool true) mixed primsD_ok codeAll (k := 60) rfl awake_run
theorem prims_ok : ∀ f F, primsF f = some F → FSound Tryd.prog f F := fun f F h => by
 unfold primsF at h
 split at h
 ·rename_i hf; subst hf; cases h; exact awake_sound
 ·exact primsD_ok f F h
end Go.Proofs.YtmhmjlfajlpabaaDoor
namespace Go.Proofs.YtmhmjlfajlpabaaDoor
open Go Go.Abs Go.RowKit
theorem opens_texts (w : World) : Opens Tryd.prog w 23 fun ds => ∃ l : List Tx, ds = [sD l] ∧ ∀ s ∈ l, s.length ≤ reachBytes :=
 (opens_rows (sz := 1) (f := D.str) (Q := fun s : Tx => s.length ≤ reachBytes) Tryd.underlying23 (by kernel_rfl) (by decide) (opens_str Tryd.underlying9) fun es ⟨l, h, hl⟩ _ => ⟨l, hl, by rw [h]; rfl⟩).mono
  fun ds ⟨l, h1, _, h3⟩ => ⟨l, h1, h3⟩
def IsJ (ds : List D) : Prop := ∃ j : J, ds = [.int .i64 j.k, .int .i64 j.n, .str j.t, sD j.ks, jsD j.l]
theorem opens_json_at (w : World) : ∀ fuel, OpensAt Tryd.prog w 26 IsJ fuel := fun fuel => by
 induction fuel using Nat.strongRecOn with
 | _ fuel ih =>
  have h := opens_struct_at (P := Tryd.prog) (w := w) Tryd.underlying26 (As := [_, _, _, _, _]) (fuel := fuel)
   ⟨rfl, fun n _ => opens_i64 Tryd.underlying3 n, by kernel_rfl, fun n _ => opens_i64 Tryd.underlying2 n, by kernel_rfl, fun n _ => opens_str Tryd.underlying9 n, by kernel_rfl, fun n _ => opens_texts w n, by kernel_rfl,
    fun n hn => opens_slice_at (sz := 5) (A := IsJ) Tryd.underlying24 (by kernel_rfl) (by decide) fun m hm => ih m (by omega), trivial⟩ (by kernel_rfl)
  intro H enc base sp hd cs x hx hw
  obtain ⟨ds, h1, h2⟩ := h H enc base sp hd cs x hx hw
  refine ⟨ds, ?_, h2⟩
  obtain ⟨d1, r1, rfl, ⟨k, rfl, _⟩, d2, r2, rfl, ⟨n, rfl, _⟩, d3, r3, rfl, ⟨t, rfl, _⟩, d4, r4, rfl, ⟨ks, rfl, _⟩, d5, r5, rfl, ⟨xs, rfl, _, hxs⟩, h6⟩ := h1
  have : r5 = [] := h6
  subst this
  obtain ⟨l, _, h5⟩ := list_of (Q := fun _ : J => True) (f := J.d) (xs := xs) fun x hx => by
   obtain ⟨es, ⟨j, rfl⟩, _, rfl⟩ := hxs x hx
   exact ⟨j, trivial, by rw [jd]; rfl⟩
  subst h5
  exact ⟨.mk k n t ks l, rfl⟩
theorem opens_json (w : World) : Opens Tryd.prog w 26 IsJ := opens_json_at w
end Go.Proofs.YtmhmjlfajlpabaaDoor
