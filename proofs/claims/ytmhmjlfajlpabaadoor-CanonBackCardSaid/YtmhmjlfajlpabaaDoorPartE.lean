/- Part 5 of a proof that reads the code abstractly. -/
import Derived.Test.YtmhmjlfajlpabaaDoorPartD
import Derived.KernelRfl
import Derived.Lib.ItoaNum
set_option linter.unusedSimpArgs false
set_option linter.unusedVariables false
set_option linter.all false
set_option maxRecDepth 100000
namespace Go.Proofs.YtmhmjlfajlpabaaDoor
open Go Go.Abs
variable {pr : FuncId → Option AFun} {pP : FuncId → Option PFun} [POK pr] [PPOK pr pP]
theorem get_at {s : Tx} {p : Nat} (h : p < s.length) : s[p]? = some (nx s p) := by
 rw [nx, List.getElem?_eq_getElem h]; rfl
theorem nx_end {s : Tx} {p : Nat} (h : s.length ≤ p) : nx s p = 0 := by
 rw [nx, List.getElem?_eq_none h]; rfl
theorem p_eq (a b : Nat) : ((a : Int) == (b : Int)) = decide (a = b) := by
 rw [Bool.eq_iff_iff]; simp; omega
theorem byteD' (b : UInt8) : byteD b = .int .u8 (b.toNat : Int) := rfl
theorem idx_ev (lim : Nat) (H : AHeap) (s : Tx) (c : UInt8) : Ev (envN code pr) 36 lim [.d (.str s), .d (.int .u8 c.toNat)] H (.d (.int .i64 (Lib.indexByte s c))) H := by
 have e0 : ∀ lim, Ev (envN code pr) 70 lim [.d (.str s), .d (.int .u8 c.toNat)] H (.d (.int .i64 (Lib.indexByte s c))) H := fun lim => Ev_prim (F := idxByteF) POK.idx (by
  unfold idxByteF
  simp)
 have e1 : ∀ lim, Ev (envN code pr) 56 lim [.d (.str s), .d (.int .u8 c.toNat)] H (.d (.int .i64 (Lib.indexByte s c))) H := fun lim => by
  refine Fn.ev ?_
  refine Fn_of (pn rfl) rfl (show code 56 = some c56 from rfl) rfl ?_; simp only [List.length_cons,List.length_nil,List.cons_append,List.nil_append,simprocAttr]
  refine w_s trivial ?_
  refine w_s trivial ?_
  refine w_s trivial ?_
  refine w_1 (e0 H.length) trivial ?_
  refine w_r trivial ?_
  exact ans_cut rfl rfl ⟨rfl, rfl⟩
 refine Fn.ev ?_
 refine Fn_of (pn rfl) rfl (show code 36 = some c36 from rfl) rfl ?_; simp only [List.length_cons,List.length_nil,List.cons_append,List.nil_append,simprocAttr]
 refine w_s trivial ?_
 refine w_s trivial ?_
 refine w_s trivial ?_
 refine w_1 (e1 H.length) trivial ?_
 refine w_r trivial ?_
 exact ans_cut rfl rfl ⟨rfl, rfl⟩
theorem next_ev (lim : Nat) (H : AHeap) (r : Nat) (s : Tx) (p : Nat) (gr : H[r]? = some (rdO s p)) (hp : p ≤ s.length) : Ev (envN code pr) 37 lim [.ptr r 0] H (.d (.int .u8 (nx s p).toNat)) H := by
 refine Fn.ev ?_
 refine Fn_of (pn rfl) rfl (show code 37 = some c37 from rfl) rfl ?_; simp only [List.length_cons,List.length_nil,List.cons_append,List.nil_append,simprocAttr]
 by_cases q : p = s.length
 ·have f0 : decide (p = s.length) = true := by simp [q]
  refine w_r (j_ gr (j_ @p_eq f0)) ?_
  rw [nx_end (by omega)]
  exact ans_keep rfl ⟨rfl, rfl⟩
 ·have f0 : decide (p = s.length) = false := by simp [q]
  have f1 := get_at (s := s) (p := p) (by omega)
  refine w_r (j_ gr (j_ @p_eq (j_ f0 f1))) ?_
  exact ans_keep rfl ⟨rfl, rfl⟩
theorem dig_eq (c : UInt8) : isDigit c = (decide (48 ≤ c.toNat) && decide (c.toNat ≤ 57)) := rfl
theorem digit_ev (lim : Nat) (H : AHeap) (c : UInt8) : Ev (envN code pr) 38 lim [.d (.int .u8 c.toNat)] H (boolD (isDigit c)) H := by
 refine Fn.ev ?_
 refine Fn_of (pn rfl) rfl (show code 38 = some c38 from rfl) rfl ?_; simp only [List.length_cons,List.length_nil,List.cons_append,List.nil_append,simprocAttr]
 have f0 : decide ((48 : Int) ≤ (c.toNat : Int)) = decide (48 ≤ c.toNat) := by rw [Bool.eq_iff_iff]; simp; omega
 have f1 : decide ((c.toNat : Int) ≤ 57) = decide (c.toNat ≤ 57) := by rw [Bool.eq_iff_iff]; simp; omega
 rw [dig_eq]
 cases h : decide (48 ≤ c.toNat) with
 | true =>
  rw [h] at f0
  refine w_r (j_ f0 f1) ?_
  exact ans_cut rfl rfl ⟨rfl, rfl⟩
 | false =>
  rw [h] at f0
  refine w_r (j_ f0 f1) ?_
  exact ans_cut rfl rfl ⟨rfl, rfl⟩
end Go.Proofs.YtmhmjlfajlpabaaDoor
set_option maxRecDepth 100000
namespace Go.Proofs.YtmhmjlfajlpabaaDoor
open Go Go.Abs
variable {pr : FuncId → Option AFun} {pP : FuncId → Option PFun} [POK pr] [PPOK pr pP]
theorem idx_ge (l : Tx) (c : UInt8) : decide (Lib.indexByte l c ≥ 0) = l.contains c := by
 rw [Bool.eq_iff_iff, decide_eq_true_iff]
 induction l with
 | nil => simp [Lib.indexByte]
 | cons b l ih =>
  have h0 := Lib.indexByte_ge l c
  simp only [Lib.indexByte, List.contains_cons, Bool.or_eq_true, ← ih]
  by_cases hb : b = c
  ·subst hb; simp
  ·have h1 : ¬ (b == c) = true := by simpa using hb
   have h2 : ¬ (c == b) = true := by simpa using fun h => hb h.symm
   rw [if_neg h1]
   by_cases hm : Lib.indexByte l c = -1
   ·rw [hm]; simp [h2]
   ·have : ¬ (Lib.indexByte l c == -1) = true := by simpa using hm
    rw [if_neg this]
    simp only [h2, false_or]; omega
theorem blank_in (c : UInt8) : ([32, 9, 10, 13] : Tx).contains c = isBlank c := by
 unfold isBlank
 simp only [List.contains_cons, List.contains_nil, Bool.or_false, Bool.or_assoc]
theorem blanks_step {s : Tx} {p : Nat} (h : p < s.length) (hb : isBlank (nx s p) = true) : blanksS s p = blanksS s (p + 1) := by
 unfold blanksS
 rw [List.drop_eq_getElem_cons h]
 have : s[p] = nx s p := by have := get_at h; rw [List.getElem?_eq_getElem h] at this; exact Option.some.inj this
 rw [this, List.takeWhile_cons_of_pos hb]
 simp; omega
theorem blanks_stop {s : Tx} {p : Nat} (h : ¬ (p < s.length ∧ isBlank (nx s p) = true)) : blanksS s p = p := by
 unfold blanksS
 by_cases hp : p < s.length
 ·rw [List.drop_eq_getElem_cons hp]
  have : s[p] = nx s p := by have := get_at hp; rw [List.getElem?_eq_getElem hp] at this; exact Option.some.inj this
  rw [this, List.takeWhile_cons_of_neg (fun q => h ⟨hp, q⟩)]; rfl
 ·rw [List.drop_eq_nil_of_le (by omega)]; rfl
theorem blanks_le (s : Tx) (p : Nat) (h : p ≤ s.length) : p ≤ blanksS s p ∧ blanksS s p ≤ s.length := by
 unfold blanksS
 have := (List.takeWhile_prefix (p := isBlank) (l := s.drop p)).length_le
 rw [List.length_drop] at this
 omega
theorem rd_set {H : AHeap} {r : Nat} {s : Tx} {p : Nat} (gr : H[r]? = some (rdO s p)) (q : Nat) : (H.set r (rdO s q))[r]? = some (rdO s q) := get_set_same _ gr
theorem rd_set2 (H : AHeap) (r : Nat) (a b : AObj) : (H.set r a).set r b = H.set r b := List.set_set ..
theorem rd_same {H : AHeap} {r : Nat} {s : Tx} {p : Nat} (gr : H[r]? = some (rdO s p)) : H.set r (rdO s p) = H := by
 obtain ⟨h, e⟩ := List.getElem?_eq_some_iff.1 gr
 rw [← e]; exact List.set_getElem_self h
theorem wpos {p : Nat} (h : p < 100000) : IntKind.i64.wrap ((p : Int) + 1) = ((p + 1 : Nat) : Int) := wsucc (by omega)
theorem blanks_ev (lim : Nat) (H : AHeap) (r : Nat) (s : Tx) (p : Nat) (gr : H[r]? = some (rdO s p)) (hl : lim ≤ r) (hp : p ≤ s.length) (hs : s.length ≤ 16384) : Ev (envN code pr) 24 lim [.ptr r 0] H (.tuple []) (H.set r (rdO s (blanksS s p))) := by
 refine Fn.ev ?_
 refine Fn_of (pn rfl) rfl (show code 24 = some c24 from rfl) rfl ?_
 simp only [List.length_cons,List.length_nil,List.cons_append,List.nil_append,simprocAttr]
 refine W_bk ?_
 refine W_lp (fun k st => ∃ q, q ≤ s.length ∧ k = s.length - q ∧ blanksS s q = blanksS s p ∧ ∃ x : Nat → AV, st = ⟨[.ptr r 0, x 1, x 2, x 3, x 4], H.set r (rdO s q)⟩) ?_ _ _ ⟨p, hp, rfl, rfl, by rw [rd_same gr]; exact ex_st _ _ _ rfl⟩
 rintro k _ ⟨q, hq, rfl, hb, x, rfl⟩
 have gq := rd_set gr q
 have w1 : IntKind.i64.wrap ((q : Int) + 1) = ((q + 1 : Nat) : Int) := wpos (by omega)
 by_cases h0 : q < s.length
 ·have f0 : decide ((q : Int) < (s.length : Int)) = true := by simp; omega
  have f1 := get_at h0
  have f2 := idx_ge [32, 9, 10, 13] (nx s q)
  rw [blank_in] at f2
  cases hc : isBlank (nx s q) with
  | true =>
   rw [hc] at f2
   (iterate 2 refine w_s trivial ?_)
   (apply W_drw; focus (refine Evl.call (X := (envN code pr)) (idx_ev lim (H.set r (rdO s q)) [32, 9, 10, 13] (nx s q)) (Evl.all fun k e1 => ?_); simp (maxSteps := 100000000) only [zz,zd,simprocAttr,gq,f0,f1,f2,byteD',e1]; (first | done | with_reducible exact rfl))) <;> (try simp only [zp,simprocAttr])
   refine w_r (j_ gq (j_ w1 hl)) ?_
   refine ⟨s.length - (q + 1), by omega, q + 1, by omega, rfl, by rw [← hb, blanks_step h0 hc], ?_⟩
   rw [rd_set2]
   exact ex_st _ _ _ rfl
  | false =>
   rw [hc] at f2
   (iterate 2 refine w_s trivial ?_)
   (apply W_drw; focus (refine Evl.call (X := (envN code pr)) (idx_ev lim (H.set r (rdO s q)) [32, 9, 10, 13] (nx s q)) (Evl.all fun k e1 => ?_); simp (maxSteps := 100000000) only [zz,zd,simprocAttr,gq,f0,f1,f2,byteD',e1]; (first | done | with_reducible exact rfl))) <;> (try simp only [zp,simprocAttr])
   refine w_r trivial ?_
   rw [blanks_stop (fun k => by rw [hc] at k; cases k.2)] at hb
   exact ans_keepN rfl ⟨rfl, by rw [← hb]⟩
 ·have f0 : decide ((q : Int) < (s.length : Int)) = false := by simp; omega
  refine w_r (j_ gq f0) ?_
  rw [blanks_stop (fun k => h0 k.1)] at hb
  exact ans_keepN rfl ⟨rfl, by rw [← hb]⟩
end Go.Proofs.YtmhmjlfajlpabaaDoor
set_option maxRecDepth 100000
namespace Go.Proofs.YtmhmjlfajlpabaaDoor
open Go Go.Abs
variable {pr : FuncId → Option AFun} {pP : FuncId → Option PFun} [POK pr] [PPOK pr pP]
theorem stop_ev (lim : Nat) (H : AHeap) (r e p : Nat) : EvP (envP code pf pr pP) 26 lim [.ptr r 0, intD e, intD p] H (stopP e p) := by
 refine Fv.evP (X := (envN code pr)) ?_
 refine Fv_of (pn rfl) rfl (by first | exact rfl | exact pnP (pr := pr) rfl) rfl (show code 26 = some c26 from rfl) rfl ?_; simp only [List.length_cons,List.length_nil,List.cons_append,List.nil_append,simprocAttr]
 refine V_region ?_
 apply VO_take 2
 ·intro _; simp only [zz,simprocAttr]; exact rfl
 ·simp only [List.drop_succ_cons,List.drop_zero]
  exact VO_panic rfl rfl
theorem want_ok (lim : Nat) (H : AHeap) (r : Nat) (s : Tx) (p : Nat) (c : UInt8) (gr : H[r]? = some (rdO s p)) (hl : lim ≤ r) (hs : s.length ≤ 16384) (h : s[p]? = some c) : Ev (envN code pr) 57 lim [.ptr r 0, .d (.int .u8 c.toNat)] H (.tuple []) (H.set r (rdO s (p + 1))) := by
 refine @Fv.ev _ (envN code pr) (envP code pf pr fun _ => none) _ _ _ _ _ _ ?_
 have hp := (List.getElem?_eq_some_iff.1 h).1
 have w1 : IntKind.i64.wrap ((p : Int) + 1) = ((p + 1 : Nat) : Int) := wpos (by omega)
 have f0 : decide (p = s.length) = false := by simp; omega
 have f1 : ((c.toNat : Int) != (c.toNat : Int)) = false := by simp
 refine Fv_of (pn rfl) rfl (by first | exact rfl | exact pnP (pr := pr) rfl) rfl (show code 57 = some c57 from rfl) rfl ?_; simp only [List.length_cons,List.length_nil,List.cons_append,List.nil_append,simprocAttr]
 (repeat ((first | refine V_sq ?_ | refine V_bk ?_ | refine V_ret ?_ | refine V_exit ?_ | refine V_skip ?_ | (apply V_rg; focus (intro _; simp only [zz,simprocAttr,gr,p_eq,f0,f1,h,byteD',w1,hl]; (first | done | with_reducible exact rfl))) | (refine V_cT ?_ ?_; focus (simp only [zp,simprocAttr]; done)) | (refine V_cF ?_ ?_; focus (simp only [zp,simprocAttr]; done))) <;> (try simp only [zp,simprocAttr])))
 exact ans_keepN rfl ⟨rfl, rfl⟩
theorem want_no (lim : Nat) (H : AHeap) (r : Nat) (s : Tx) (p : Nat) (c : UInt8) (gr : H[r]? = some (rdO s p)) (hp : p ≤ s.length) (h : s[p]? ≠ some c) : EvP (envP code pf pr pP) 57 lim [.ptr r 0, .d (.int .u8 c.toNat)] H (stopP 11 p) := by
 refine Fv.evP (X := (envN code pr)) ?_
 refine Fv_of (pn rfl) rfl (by first | exact rfl | exact pnP (pr := pr) rfl) rfl (show code 57 = some c57 from rfl) rfl ?_; simp only [List.length_cons,List.length_nil,List.cons_append,List.nil_append,simprocAttr]
 by_cases q : p = s.length
 ·have f0 : decide (p = s.length) = true := by simp [q]
  (iterate 4 refine v_s (j_ gr (j_ @p_eq f0)) ?_)
  refine V_region ?_; apply VO_take 3; (focus (intro _; simp only [zz,simprocAttr,gr]; (first | done | with_reducible exact rfl))); simp only [List.drop_succ_cons,List.drop_zero]; refine VO_call rfl ?_; simp only [zz,simprocAttr]
  exact EvP.fv (stop_ev _ _ r 11 p) rfl
 ·have f0 : decide (p = s.length) = false := by simp [q]
  have f1 := get_at (s := s) (p := p) (by omega)
  have f2 : (((nx s p).toNat : Int) != (c.toNat : Int)) = true := by
   simp only [bne_iff_ne, ne_eq]
   intro e
   have : (nx s p).toNat = c.toNat := by omega
   exact h (by rw [f1, UInt8.toNat_inj.1 this])
  (iterate 4 ((first | refine V_sq ?_ | refine V_bk ?_ | refine V_ret ?_ | refine V_exit ?_ | refine V_skip ?_ | (apply V_rg; focus (intro _; simp only [zz,simprocAttr,gr,p_eq,f0,f1,f2,byteD']; (first | done | with_reducible exact rfl))) | (refine V_cT ?_ ?_; focus (simp only [zp,simprocAttr]; done)) | (refine V_cF ?_ ?_; focus (simp only [zp,simprocAttr]; done))) <;> (try simp only [zp,simprocAttr])))
  refine V_region ?_; apply VO_take 3; (focus (intro _; simp only [zz,simprocAttr,gr]; (first | done | with_reducible exact rfl))); simp only [List.drop_succ_cons,List.drop_zero]; refine VO_call rfl ?_; simp only [zz,simprocAttr]
  exact EvP.fv (stop_ev _ _ r 11 p) rfl
end Go.Proofs.YtmhmjlfajlpabaaDoor
set_option maxRecDepth 100000
namespace Go.Proofs.YtmhmjlfajlpabaaDoor
open Go Go.Abs
variable {pr : FuncId → Option AFun} {pP : FuncId → Option PFun} [POK pr] [PPOK pr pP]
theorem want_cases (s : Tx) (c : UInt8) (p : Nat) : (s[p]? = some c ∧ wantS s c p = .ok (p + 1)) ∨ (s[p]? ≠ some c ∧ wantS s c p = .error (11, p)) := by
 unfold wantS
 by_cases h : s[p]? = some c
 ·exact .inl ⟨h, by rw [if_pos h]⟩
 ·exact .inr ⟨h, by rw [if_neg h]⟩
abbrev flatD (k n : Int) : D := .agg [.int .i64 k, .int .i64 n, .str [], .slice [], .slice []]
abbrev flatC (k n : Int) : List AV := [intD k, intD n, .d (.str []), .fslice [], .fslice []]
theorem word_all {s : Tx} : ∀ {w : Tx} {p : Nat}, (∀ j, j < w.length → s[p + j]? = w[j]?) → wordS s w p = .ok (p + w.length)
 | [], p, _ => rfl
 | c :: w, p, h => by
  unfold wordS
  have h0 := h 0 (by simp)
  rcases want_cases s c p with ⟨h1, h2⟩ | ⟨h1, h2⟩
  ·rw [h2]
   have := word_all (s := s) (w := w) (p := p + 1) fun j hj => by
    have := h (j + 1) (by simpa using hj)
    rw [show p + 1 + j = p + (j + 1) by omega, this]; simp
   simp only [this, List.length_cons]
   rw [show p + 1 + w.length = p + (w.length + 1) by omega]
  ·exact absurd (by simpa using h0) h1
theorem word_at {s : Tx} : ∀ {w : Tx} {p i : Nat}, i < w.length → (∀ j, j < i → s[p + j]? = w[j]?) → s[p + i]? ≠ w[i]? → wordS s w p = .error (11, p + i)
 | [], p, i, hi, _, _ => by cases hi
 | c :: w, p, 0, _, _, hn => by
  unfold wordS
  rcases want_cases s c p with ⟨h1, h2⟩ | ⟨h1, h2⟩
  ·exact absurd (by simpa using h1) hn
  ·rw [h2]; rfl
 | c :: w, p, i + 1, hi, h, hn => by
  unfold wordS
  have h0 := h 0 (by omega)
  rcases want_cases s c p with ⟨h1, h2⟩ | ⟨h1, h2⟩
  ·rw [h2]
   have := word_at (s := s) (w := w) (p := p + 1) (i := i) (by simpa using hi) (fun j hj => by
    have := h (j + 1) (by omega)
    rw [show p + 1 + j = p + (j + 1) by omega, this]; simp) (by rw [show p + 1 + i = p + (i + 1) by omega]; simpa using hn)
   simp only [this]
   rw [show p + 1 + i = p + (i + 1) by omega]
  ·exact absurd (by simpa using h0) h1
theorem two_more {H : AHeap} {r : Nat} {o : AObj} (gr : H[r]? = some o) (A B : AObj) : ∃ KK : AObj → AObj → AHeap, (∀ x y, KK x y = H.set r x ++ [A, y]) ∧ KK o B = H ++ [A, B] ∧ (∀ x y, (KK x y)[r]? = some x) ∧ (∀ x y, (KK x y)[H.length]? = some A) ∧ (∀ x y, (KK x y)[H.length + 1]? = some y) ∧
  (∀ x x' y, (KK x y).set r x' = KK x' y) ∧ ∀ x y y', (KK x y).set (H.length + 1) y' = KK x y' := by
 obtain ⟨hr, e⟩ := List.getElem?_eq_some_iff.1 gr
 refine ⟨fun x y => H.set r x ++ [A, y], fun _ _ => rfl, ?_, fun x y => ?_, fun x y => ?_, fun x y => ?_, fun x x' y => ?_, fun x y y' => ?_⟩
 ·simp only; rw [← e, List.set_getElem_self hr]
 ·simp only; rw [List.getElem?_append_left (by simpa using hr)]; simp [hr]
 ·simp only; rw [List.getElem?_append_right (by simp)]; simp
 ·simp only; rw [List.getElem?_append_right (by simp)]; simp
 ·simp only; rw [List.set_append_left _ _ (by simpa using hr), List.set_set]
 ·simp only; rw [List.set_append_right _ _ (by simp)]; simp
theorem len_app2 (H : AHeap) (A : AObj) : (H ++ [A]).length = H.length + 1 := by simp
theorem app2 (H : AHeap) (A B : AObj) : H ++ [A] ++ [B] = H ++ [A, B] := by simp
theorem word_ev (lim : Nat) (H : AHeap) (r : Nat) (s : Tx) (p : Nat) (w : Tx) (k n : Int) (gr : H[r]? = some (rdO s p)) (hl : lim ≤ r) (hs : s.length ≤ 16384) (hw : w.length ≤ 10) (hp : p ≤ s.length) :
  Fv (envN code pr) (envP code pf pr pP) 42 lim [.ptr r 0, .d (.str w), .agg [intD k, intD n, .d (.str []), .fslice [], .fslice []]] H (fun v H' => ∃ q, wordS s w p = .ok q ∧ v = .d (flatD k n) ∧ H' = H.set r (rdO s q)) (fun z => ∃ e, wordS s w p = .error e ∧ z = stopP e.1 e.2) := by
 refine Fv_ofC (pn rfl) rfl (by first | exact rfl | exact pnP (pr := pr) rfl) rfl (show code 42 = some c42 from rfl) rfl ?_; simp only [List.length_cons,List.length_nil,List.cons_append,List.nil_append,simprocAttr]
 obtain ⟨KK, kk0, kk1, kk2, kk3, kk4, kk5, kk6⟩ := two_more gr (.cells (flatC k n)) (.cells [intD 0, intD 0, .d (.str []), .fslice [], .fslice []])
 (iterate 4 refine v_s (j_ @len_app2 @app2) ?_)
 rw [← kk1]
 (iterate 2 refine v_s trivial ?_)
 refine V_lp (fun m st => ∃ i, i ≤ w.length ∧ m = w.length - i ∧ (∀ j, j < i → s[p + j]? = w[j]?) ∧ ∃ x : Nat → AV, st = ⟨[.ptr r 0, .d (.str w), x 2, x 3, .ptr (H.length + 1) 0, .ptr H.length 0, intD w.length, intD i, x 8, x 9], KK (rdO s (p + i)) (.cells [intD 0, intD 0, .d (.str []), .fslice [], .fslice []])⟩) ?_ _ _ ⟨0, Nat.zero_le _, rfl, fun j hj => by omega, ex_st _ _ _ rfl⟩
 rintro m _ ⟨i, hi, rfl, hm, x, rfl⟩
 have gi := kk2 (rdO s (p + i)) (.cells [intD 0, intD 0, .d (.str []), .fslice [], .fslice []])
 by_cases h0 : i < w.length
 ·have f0 : decide ((i : Int) < (w.length : Int)) = true := by simp; omega
  have w1 : IntKind.i64.wrap ((i : Int) + 1) = ((i + 1 : Nat) : Int) := wpos (by omega)
  have hc := get_at h0
  by_cases h1 : s[p + i]? = w[i]?
  ·rw [hc] at h1
   (repeat ((first | refine V_sq ?_ | refine V_bk ?_ | refine V_ret ?_ | refine V_exit ?_ | refine V_skip ?_ | (apply V_rg; focus (intro _; simp only [zz,simprocAttr,f0,hc,byteD']; (first | done | with_reducible exact rfl))) | (refine V_cT ?_ ?_; focus (simp only [zp,simprocAttr]; done)) | (refine V_cF ?_ ?_; focus (simp only [zp,simprocAttr]; done))) <;> (try simp only [zp,simprocAttr])))
   refine V_region ?_; apply VO_take 1; (focus (intro _; simp only [zz,simprocAttr,hc,byteD']; (first | done | with_reducible exact rfl))); simp only [List.drop_succ_cons,List.drop_zero]; refine VO_call rfl ?_; simp only [zz,simprocAttr]; refine Ev.fv (want_ok _ _ r s (p + i) (nx w i) gi hl hs h1) ?_
   (apply VO_end; (focus (intro _; simp only [zz,simprocAttr]; (first | done | with_reducible exact rfl)))) <;> (try simp only [zp,simprocAttr])
   refine v_r (j_ w1 kk5) ?_
   refine ⟨w.length - (i + 1), by omega, i + 1, h0, rfl, fun j hj => ?_, ex_st _ _ _ rfl⟩
   rcases Nat.lt_or_ge j i with hji | hji
   ·exact hm j hji
   ·obtain rfl : j = i := by omega
    rw [h1, hc]
  ·(repeat ((first | refine V_sq ?_ | refine V_bk ?_ | refine V_ret ?_ | refine V_exit ?_ | refine V_skip ?_ | (apply V_rg; focus (intro _; simp only [zz,simprocAttr,f0,hc,byteD']; (first | done | with_reducible exact rfl))) | (refine V_cT ?_ ?_; focus (simp only [zp,simprocAttr]; done)) | (refine V_cF ?_ ?_; focus (simp only [zp,simprocAttr]; done))) <;> (try simp only [zp,simprocAttr])))
   refine V_region ?_
   apply VO_take 1
   ·intro _; simp only [zz,simprocAttr,hc,byteD']; with_reducible exact rfl
   ·simp only [List.drop_succ_cons,List.drop_zero]
    refine VO_call rfl ?_
    simp only [zz,simprocAttr]
    have hpi : p + i ≤ s.length := by
     cases i with
     | zero => exact hp
     | succ i =>
      have h2 := hm i (by omega)
      rw [List.getElem?_eq_getElem (show i < w.length by omega)] at h2
      have := (List.getElem?_eq_some_iff.1 h2).1
      omega
    exact EvP.fv (want_no _ _ r s (p + i) (nx w i) gi hpi (by rw [← hc]; exact h1)) ⟨(11, p + i), word_at h0 hm (by rw [hc, ← hc]; exact h1), rfl⟩
 ·obtain rfl : i = w.length := by omega
  have f0 : decide ((w.length : Int) < (w.length : Int)) = false := by simp
  have hl2 : lim ≤ H.length + 1 := by have := (List.getElem?_eq_some_iff.1 gr).1; omega
  refine v_r (j_ f0 (j_ kk3 (j_ kk4 (j_ kk6 hl2)))) ?_
  refine ans_drop (vs := [.d (flatD k n)]) ?_ (kk0 _ _) (List.getElem?_eq_some_iff.1 gr).1 rfl rfl ⟨p + w.length, word_all hm, rfl, rfl⟩
  simp only [resV,zz,simprocAttr,kk4]
end Go.Proofs.YtmhmjlfajlpabaaDoor
set_option maxRecDepth 100000
namespace Go.Proofs.YtmhmjlfajlpabaaDoor
open Go Go.Abs
variable {pr : FuncId → Option AFun} {pP : FuncId → Option PFun} [POK pr] [PPOK pr pP]
abbrev HX : Tx := [48, 49, 50, 51, 52, 53, 54, 55, 56, 57, 97, 98, 99, 100, 101, 102, 65, 66, 67, 68, 69, 70]
def hexOK (c : UInt8) : Bool := match hexV c with
 | none => decide (Lib.indexByte HX c < 0)
 | some v => decide (v < 16) && (decide (Lib.indexByte HX c = v) || (decide (15 < Lib.indexByte HX c) && decide (Lib.indexByte HX c = v + 6))) && (decide (Lib.indexByte HX c ≤ 15) || decide (Lib.indexByte HX c = v + 6))
theorem hex_all : ∀ i : Fin 256, hexOK (UInt8.ofNat i.val) = true := by decide +kernel
theorem hex_ok (c : UInt8) : hexOK c = true := by
 have := hex_all ⟨c.toNat, c.toNat_lt⟩
 simpa using this
theorem i32n (a : Nat) (h : a < 2147483648) : IntKind.i32.wrap (a : Int) = a := w32 (by omega) (by omega)
theorem shl4 (n : Nat) (h : n < 65536) : shiftInt .shl .i32 (n : Int) 4 = some (.int .i32 ((n * 16 : Nat) : Int)) := by
 have h1 : shiftInt .shl .i32 (n : Int) 4 = some (.int .i32 (IntKind.i32.wrap ((n : Int) * 2 ^ 4))) := rfl
 have : (n : Int) * 2 ^ 4 = ((n * 16 : Nat) : Int) := by omega
 rw [h1, this, i32n _ (by omega)]
theorem or4 (n v : Nat) (h : n < 65536) (hv : v < 16) : binInt .or .i32 ((n * 16 : Nat) : Int) (v : Int) = some (.int .i32 ((n * 16 + v : Nat) : Int)) := by
 have h1 : binInt .or .i32 ((n * 16 : Nat) : Int) (v : Int) = some (.int .i32 (IntKind.i32.wrap ((BitVec.ofInt 32 ((n * 16 : Nat) : Int) ||| BitVec.ofInt 32 (v : Int)).toNat : Nat))) := rfl
 have e := Nat.shiftLeft_add_eq_or_of_lt (i := 4) (b := v) (by omega) n
 rw [Nat.shiftLeft_eq] at e
 rw [h1, ofInt_nat, ofInt_nat, BitVec.toNat_or, BitVec.toNat_ofNat, BitVec.toNat_ofNat, Nat.mod_eq_of_lt (a := n * 16) (show n * 16 < 2 ^ 32 by omega), Nat.mod_eq_of_lt (a := v) (show v < 2 ^ 32 by omega), ← e, i32n _ (by omega)]
theorem code_lt : ∀ {k n p m q : Nat} {s : Tx}, codeS s k n p = .ok (m, q) → m < (n + 1) * 16 ^ k ∧ q = p + k ∧ (p ≤ s.length → q ≤ s.length)
 | 0, n, p, m, q, s, h => by unfold codeS at h; cases h; exact ⟨by omega, by omega, fun h => h⟩
 | k + 1, n, p, m, q, s, h => by
  unfold codeS at h
  split at h
  ·cases h
  ·rename_i c hc
   split at h
   ·cases h
   ·rename_i v hv
    obtain ⟨h1, h2, h3⟩ := code_lt h
    have hk := hex_ok c
    unfold hexOK at hk
    rw [hv] at hk
    simp only [Bool.and_eq_true, decide_eq_true_eq] at hk
    have := (List.getElem?_eq_some_iff.1 hc).1
    refine ⟨?_, by omega, fun _ => h3 (by omega)⟩
    have h4 : (16 * n + v + 1) * 16 ^ k ≤ (n + 1) * 16 * 16 ^ k := Nat.mul_le_mul_right _ (by omega)
    rw [Nat.pow_succ, Nat.mul_comm (16 ^ k) 16, ← Nat.mul_assoc]
    omega
abbrev i32D (n : Int) : AV := .d (.int .i32 n)
theorem code_ev (lim : Nat) (H : AHeap) (r : Nat) (s : Tx) (p : Nat) (gr : H[r]? = some (rdO s p)) (hl : lim ≤ r) (hs : s.length ≤ 16384) (hp : p ≤ s.length) :
  Fv (envN code pr) (envP code pf pr pP) 73 lim [.ptr r 0] H (fun v H' => ∃ n q, codeS s 4 0 p = .ok (n, q) ∧ v = i32D n ∧ H' = H.set r (rdO s q)) (fun z => ∃ e, codeS s 4 0 p = .error e ∧ z = stopP e.1 e.2) := by
 refine Fv_of (pn rfl) rfl (by first | exact rfl | exact pnP (pr := pr) rfl) rfl (show code 73 = some c73 from rfl) rfl ?_; simp only [List.length_cons,List.length_nil,List.cons_append,List.nil_append,simprocAttr]
 refine v_r trivial ?_
 refine V_lp (fun m st => ∃ i n, i ≤ 4 ∧ m = 4 - i ∧ n < 16 ^ i ∧ p + i ≤ s.length ∧ codeS s 4 0 p = codeS s (4 - i) n (p + i) ∧ ∃ x : Nat → AV, st = ⟨[.ptr r 0, x 1, x 2, x 3, x 4, i32D n, intD i, x 7, x 8, x 9], H.set r (rdO s (p + i))⟩) ?_ _ _ ⟨0, 0, by omega, rfl, by simp, hp, rfl, ex_stH (rd_same gr).symm rfl⟩
 rintro m _ ⟨i, n, hi, rfl, hn, hpi, hc, x, rfl⟩
 have gi := rd_set gr (p + i)
 by_cases h0 : i < 4
 ·have f0 : decide ((i : Int) < 4) = true := by simp; omega
  have w1 : IntKind.i64.wrap ((i : Int) + 1) = ((i + 1 : Nat) : Int) := wpos (by omega)
  have hk := hex_ok (nx s (p + i))
  have hn2 : n < 65536 := Nat.lt_of_lt_of_le hn (Nat.pow_le_pow_right (by omega) (show i ≤ 4 by omega))
  by_cases h1 : p + i = s.length
  ·have f1 : decide (p + i = s.length) = true := by simp [h1]
   have he : codeS s (4 - i) n (p + i) = .error (11, p + i) := by
    rw [show 4 - i = (3 - i) + 1 by omega]; unfold codeS
    rw [List.getElem?_eq_none (by omega)]
   refine v_r f0 ?_
   (apply V_drw; focus (refine Evl.call (X := (envN code pr)) (next_ev lim (H.set r (rdO s (p + i))) r s (p + i) gi hpi) (Evl.call (X := (envN code pr)) (idx_ev lim (H.set r (rdO s (p + i))) HX (nx s (p + i))) (Evl.all fun k e2 e1 => ?_)); simp (maxSteps := 100000000) only [zz,zd,simprocAttr,e2,e1]; (first | done | with_reducible exact rfl))) <;> (try simp only [zp,simprocAttr])
   refine v_r (j_ gi (j_ @p_eq f1)) ?_
   refine V_region ?_; apply VO_take 3; (focus (intro _; simp only [zz,simprocAttr,gi]; (first | done | with_reducible exact rfl))); simp only [List.drop_succ_cons,List.drop_zero]; refine VO_call rfl ?_; simp only [zz,simprocAttr]
   exact EvP.fv (stop_ev _ _ r 11 (p + i)) ⟨_, by rw [hc, he], rfl⟩
  ·have f1 : decide (p + i = s.length) = false := by simp [h1]
   have hat := get_at (s := s) (p := p + i) (by omega)
   cases hv : hexV (nx s (p + i)) with
   | none =>
    unfold hexOK at hk
    rw [hv] at hk
    have he : codeS s (4 - i) n (p + i) = .error (11, p + i) := by
     rw [show 4 - i = (3 - i) + 1 by omega]; unfold codeS
     rw [hat]; simp only [hv]
    refine v_r f0 ?_
    (apply V_drw; focus (refine Evl.call (X := (envN code pr)) (next_ev lim (H.set r (rdO s (p + i))) r s (p + i) gi hpi) (Evl.call (X := (envN code pr)) (idx_ev lim (H.set r (rdO s (p + i))) HX (nx s (p + i))) (Evl.all fun k e2 e1 => ?_)); simp (maxSteps := 100000000) only [zz,zd,simprocAttr,e2,e1]; (first | done | with_reducible exact rfl))) <;> (try simp only [zp,simprocAttr])
    refine v_r (j_ gi (j_ @p_eq (j_ f1 hk))) ?_
    refine V_region ?_; apply VO_take 3; (focus (intro _; simp only [zz,simprocAttr,gi]; (first | done | with_reducible exact rfl))); simp only [List.drop_succ_cons,List.drop_zero]; refine VO_call rfl ?_; simp only [zz,simprocAttr]
    exact EvP.fv (stop_ev _ _ r 11 (p + i)) ⟨_, by rw [hc, he], rfl⟩
   | some v =>
    unfold hexOK at hk
    rw [hv] at hk
    simp only [Bool.and_eq_true, Bool.or_eq_true, decide_eq_true_eq] at hk
    obtain ⟨⟨hv16, hk1⟩, hk2⟩ := hk
    have he : codeS s (4 - i) n (p + i) = codeS s (4 - (i + 1)) (16 * n + v) (p + (i + 1)) := by
     rw [show 4 - i = (3 - i) + 1 by omega, show 4 - (i + 1) = 3 - i by omega]
     conv => lhs; unfold codeS
     rw [hat]; simp only [hv]; rfl
    have f2 : decide (Lib.indexByte HX (nx s (p + i)) < 0) = false := by simp; omega
    have s4 := shl4 n hn2
    have o4 := or4 n v hn2 hv16
    have wv : IntKind.i32.wrap (v : Int) = v := i32n v (by omega)
    have wp : IntKind.i64.wrap (((p + i : Nat) : Int) + 1) = ((p + (i + 1) : Nat) : Int) := by rw [wpos (by omega)]; rfl
    have hn3 : n * 16 + v < 16 ^ (i + 1) := by rw [Nat.pow_succ]; omega
    refine v_r f0 ?_
    (apply V_drw; focus (refine Evl.call (X := (envN code pr)) (next_ev lim (H.set r (rdO s (p + i))) r s (p + i) gi hpi) (Evl.call (X := (envN code pr)) (idx_ev lim (H.set r (rdO s (p + i))) HX (nx s (p + i))) (Evl.all fun k e2 e1 => ?_)); simp (maxSteps := 100000000) only [zz,zd,simprocAttr,e2,e1]; (first | done | with_reducible exact rfl))) <;> (try simp only [zp,simprocAttr])
    rcases Int.lt_or_le 15 (Lib.indexByte HX (nx s (p + i))) with h2 | h2
    ·have e6 : Lib.indexByte HX (nx s (p + i)) = v + 6 := by rcases hk1 with h | h <;> rcases hk2 with h' | h' <;> omega
     have f3 : decide (Lib.indexByte HX (nx s (p + i)) > 15) = true := by simp; omega
     have w2 : IntKind.i64.wrap (Lib.indexByte HX (nx s (p + i)) - 6) = (v : Int) := by rw [e6, w64 (by omega) (by omega)]; omega
     (repeat ((first | refine V_sq ?_ | refine V_bk ?_ | refine V_ret ?_ | refine V_exit ?_ | refine V_skip ?_ | (apply V_rg; focus (intro _; simp only [zz,simprocAttr,gi,p_eq,f1,f2,f3,w2,s4,o4,wv,wp,hl,rd_set2,w1]; (first | done | with_reducible exact rfl))) | (refine V_cT ?_ ?_; focus (simp only [zp,simprocAttr]; done)) | (refine V_cF ?_ ?_; focus (simp only [zp,simprocAttr]; done))) <;> (try simp only [zp,simprocAttr])))
     refine ⟨4 - (i + 1), by omega, i + 1, n * 16 + v, by omega, rfl, hn3, by omega, by rw [hc, he, Nat.mul_comm 16 n], ex_st _ _ _ rfl⟩
    ·have e6 : Lib.indexByte HX (nx s (p + i)) = v := by rcases hk1 with h | h <;> rcases hk2 with h' | h' <;> omega
     have f3 : decide (Lib.indexByte HX (nx s (p + i)) > 15) = false := by simp; omega
     refine v_r (j_ gi (j_ @p_eq (j_ f1 (j_ f2 f3)))) ?_
     (repeat ((first | refine V_sq ?_ | refine V_bk ?_ | refine V_ret ?_ | refine V_exit ?_ | refine V_skip ?_ | (apply V_rg; focus (intro _; simp only [zz,simprocAttr,gi,e6,s4,o4,wv,wp,hl,rd_set2,w1]; (first | done | with_reducible exact rfl))) | (refine V_cT ?_ ?_; focus (simp only [zp,simprocAttr]; done)) | (refine V_cF ?_ ?_; focus (simp only [zp,simprocAttr]; done))) <;> (try simp only [zp,simprocAttr])))
     refine ⟨4 - (i + 1), by omega, i + 1, n * 16 + v, by omega, rfl, hn3, by omega, by rw [hc, he, Nat.mul_comm 16 n], ex_st _ _ _ rfl⟩
 ·obtain rfl : i = 4 := by omega
  have f0 : decide (((4 : Nat) : Int) < 4) = false := by simp
  refine v_r f0 ?_
  exact ans_keep rfl ⟨n, p + 4, by rw [hc]; rfl, rfl, rfl⟩
end Go.Proofs.YtmhmjlfajlpabaaDoor
set_option maxRecDepth 100000
namespace Go.Proofs.YtmhmjlfajlpabaaDoor
open Go Go.Abs
theorem nx_end' {s : Tx} {p : Nat} (h : s.length ≤ p) : nx s p = 0 := by
 unfold nx; rw [List.getElem?_eq_none h]; rfl
theorem nx_lt' {s : Tx} {p : Nat} (h : nx s p ≠ 0) : p < s.length := by
 rcases Nat.lt_or_ge p s.length with h1 | h1
 ·exact h1
 ·exact absurd (nx_end' h1) h
theorem u8_t {c k : UInt8} {n : Int} (h : c = k) (hn : (k.toNat : Int) = n) : ((c.toNat : Int) == n) = true := by subst h; simpa using hn
theorem u8_f {c k : UInt8} {n : Int} (h : c ≠ k) (hn : (k.toNat : Int) = n) : ((c.toNat : Int) == n) = false := by
 rw [Bool.eq_false_iff]
 intro e
 have : (c.toNat : Int) = n := by simpa using e
 exact h (UInt8.toNat_inj.1 (by omega))
theorem blanks_le' (s : Tx) (p : Nat) : p ≤ blanksS s p ∧ (p ≤ s.length → blanksS s p ≤ s.length) := by
 unfold blanksS
 have := (List.takeWhile_prefix (p := isBlank) (l := s.drop p)).length_le
 rw [List.length_drop] at this
 omega
theorem want_lt {s : Tx} {c : UInt8} {p q : Nat} (h : wantS s c p = .ok q) : q = p + 1 ∧ q ≤ s.length := by
 unfold wantS at h
 split at h
 ·rename_i h1; have := (List.getElem?_eq_some_iff.1 h1).1; cases h; omega
 ·cases h
theorem word_lt {s : Tx} : ∀ {w : Tx} {p q : Nat}, wordS s w p = .ok q → q = p + w.length ∧ (p ≤ s.length → q ≤ s.length)
 | [], p, q, h => by cases h; exact ⟨rfl, fun h => h⟩
 | c :: w, p, q, h => by
  unfold wordS at h
  split at h
  ·rename_i q' h1
   obtain ⟨rfl, h2⟩ := want_lt h1
   have := word_lt h
   simp only [List.length_cons]; omega
  ·cases h
theorem digits_lt {s : Tx} {first : Nat} : ∀ {f n p m q : Nat}, digitsS s first f n p = .ok (m, q) → p ≤ q ∧ (p ≤ s.length → q ≤ s.length) ∧ (isDigit (nx s p) = true → p < q)
 | 0, _, _, _, _, h => by cases h
 | f + 1, n, p, m, q, h => by
  unfold digitsS at h
  split at h
  ·rename_i hd
   split at h
   ·cases h
   ·have hp : p < s.length := nx_lt' fun h => by rw [h] at hd; cases hd
    have := digits_lt h
    omega
  ·rename_i hd
   cases h; exact ⟨Nat.le_refl _, fun h => h, fun h => absurd h hd⟩
theorem number_lt {s : Tx} {p q : Nat} {j : J} (h : numberS s p = .ok (j, q)) : p < q ∧ q ≤ s.length := by
 unfold numberS at h
 simp only at h
 generalize hf : (if nx s p = 45 then p + 1 else p) = f at h
 have hpf : p ≤ f := by rw [← hf]; split <;> omega
 split at h
 ·rename_i hd
  split at h
  ·cases h
  ·rename_i n q' h1
   split at h
   ·cases h
   ·have hl : f < s.length := nx_lt' fun h => by rw [h] at hd; cases hd
    have := digits_lt h1
    have := this.2.2 hd
    cases h; omega
 ·cases h
theorem code_le {s : Tx} : ∀ {k n p m q : Nat}, codeS s k n p = .ok (m, q) → p ≤ q ∧ (p ≤ s.length → q ≤ s.length)
 | 0, n, p, m, q, h => by unfold codeS at h; cases h; omega
 | k + 1, n, p, m, q, h => by
  unfold codeS at h
  split at h
  ·cases h
  ·rename_i c hc
   have := (List.getElem?_eq_some_iff.1 hc).1
   split at h
   ·cases h
   ·have := code_le h; omega
theorem esc_lt {s : Tx} {p n q : Nat} (h : escS s p = .ok (n, q)) : p < q ∧ q ≤ s.length := by
 unfold escS at h
 split at h
 ·cases h
 ·rename_i c hc
  have hl := (List.getElem?_eq_some_iff.1 hc).1
  iterate 6 (split at h; · have := congrArg Prod.snd (Except.ok.inj h); simp only at this; omega)
  split at h
  ·split at h
   ·cases h
   ·rename_i n1 p1 h1
    have := code_le h1
    split at h
    ·have := congrArg Prod.snd (Except.ok.inj h); simp only at this; omega
    ·split at h
     ·cases h
     ·rename_i hh
      have h92 : s[p1]? = some 92 ∧ s[p1 + 1]? = some 117 := Classical.byContradiction fun k => hh (.inr k)
      have := (List.getElem?_eq_some_iff.1 h92.2).1
      split at h
      ·cases h
      ·rename_i n2 p2 h2
       have := code_le h2
       split at h
       ·cases h
       ·have := congrArg Prod.snd (Except.ok.inj h); simp only at this; omega
  ·cases h
theorem chars_lt {s : Tx} : ∀ {f : Nat} {acc : Tx} {p q : Nat} {t : Tx}, charsS s f acc p = .ok (t, q) → p < q ∧ q ≤ s.length
 | 0, _, _, _, _, h => by cases h
 | f + 1, acc, p, q, t, h => by
  unfold charsS at h
  split at h
  ·cases h
  ·rename_i c hc
   have hl := (List.getElem?_eq_some_iff.1 hc).1
   split at h
   ·cases h
   ·split at h
    ·cases h; omega
    ·split at h
     ·split at h
      ·cases h
      ·rename_i n1 p1 h1
       have := esc_lt h1
       have := chars_lt h
       omega
     ·have := chars_lt h; omega
theorem text_lt {s : Tx} {p q : Nat} {t : Tx} (h : textS s p = .ok (t, q)) : p < q ∧ q ≤ s.length := by
 unfold textS at h
 split at h
 ·cases h
 ·rename_i p1 h1
  have := want_lt h1
  have := chars_lt h
  omega
theorem more_lt {s : Tx} {first : Bool} {e : UInt8} {p q : Nat} {b : Bool} (h : moreS s first e p = .ok (b, q)) : p ≤ q ∧ (p ≤ s.length → q ≤ s.length) ∧ (b = false → p < q) := by
 unfold moreS at h
 simp only at h
 have hb := blanks_le' s p
 split at h
 ·rename_i h1; have := (List.getElem?_eq_some_iff.1 h1).1; cases h; refine ⟨by omega, fun _ => by omega, fun _ => by omega⟩
 ·split at h
  ·cases h; exact ⟨hb.1, hb.2, fun h => by cases h⟩
  ·split at h
   ·cases h
   ·rename_i q1 h1
    have := want_lt h1
    have hb2 := blanks_le' s q1
    cases h; exact ⟨by omega, fun _ => hb2.2 (by omega), fun h => by cases h⟩
theorem all_lt (s : Tx) : ∀ f : Nat, (∀ deep p j q, valueS s f deep p = .ok (j, q) → p < q ∧ (q ≤ s.length)) ∧
  (∀ deep first acc p l q, listS s f deep first acc p = .ok (l, q) → p < q ∧ (p ≤ s.length → q ≤ s.length)) ∧
  (∀ deep first ks acc p k l q, fieldsS s f deep first ks acc p = .ok (k, l, q) → p < q ∧ (p ≤ s.length → q ≤ s.length)) := by
 intro f
 induction f with
 | zero =>
  refine ⟨fun _ _ _ _ h => ?_, fun _ _ _ _ _ _ h => ?_, fun _ _ _ _ _ _ _ _ h => ?_⟩
  ·unfold valueS at h; cases h
  ·unfold listS at h; cases h
  ·unfold fieldsS at h; cases h
 | succ f ih =>
  refine ⟨fun deep p j q h => ?_, fun deep first acc p l q h => ?_, fun deep first ks acc p k l q h => ?_⟩
  ·unfold valueS at h
   split at h
   ·cases h
   split at h
   ·rename_i hc
    have hp : p < s.length := nx_lt' (by rw [hc]; decide)
    split at h
    ·cases h
    ·rename_i l q' h1
     have := ih.2.1 _ _ _ _ _ _ h1
     cases h; omega
   split at h
   ·rename_i hc
    have hp : p < s.length := nx_lt' (by rw [hc]; decide)
    split at h
    ·cases h
    ·rename_i k l q' h1
     have := ih.2.2 _ _ _ _ _ _ _ _ h1
     cases h; omega
   split at h
   ·split at h
    ·cases h
    ·rename_i t q' h1
     have := text_lt h1
     cases h; exact this
   split at h
   ·rename_i hc
    have hp : p < s.length := nx_lt' (by rw [hc]; decide)
    split at h
    ·cases h
    ·rename_i q' h1
     have := word_lt h1
     cases h; simp only [List.length_cons, List.length_nil] at this; omega
   split at h
   ·rename_i hc
    have hp : p < s.length := nx_lt' (by rw [hc]; decide)
    split at h
    ·cases h
    ·rename_i q' h1
     have := word_lt h1
     cases h; simp only [List.length_cons, List.length_nil] at this; omega
   split at h
   ·rename_i hc
    have hp : p < s.length := nx_lt' (by rw [hc]; decide)
    split at h
    ·cases h
    ·rename_i q' h1
     have := word_lt h1
     cases h; simp only [List.length_cons, List.length_nil] at this; omega
   exact number_lt h
  ·unfold listS at h
   split at h
   ·cases h
   ·rename_i q' h1
    have := more_lt h1
    have := this.2.2 rfl
    cases h; omega
   ·rename_i p' h1
    have := more_lt h1
    split at h
    ·cases h
    ·rename_i j q' h2
     have := ih.1 _ _ _ _ h2
     have := ih.2.1 _ _ _ _ _ _ h
     omega
  ·unfold fieldsS at h
   split at h
   ·cases h
   ·rename_i q' h1
    have := more_lt h1
    have := this.2.2 rfl
    cases h; omega
   ·rename_i p' h1
    have := more_lt h1
    split at h
    ·cases h
    ·rename_i k' q' h2
     have := text_lt h2
     split at h
     ·cases h
     ·split at h
      ·cases h
      ·rename_i r h3
       have := want_lt h3
       split at h
       ·cases h
       ·rename_i j z h4
        have := ih.1 _ _ _ _ h4
        have := ih.2.2 _ _ _ _ _ _ _ _ h
        have := blanks_le' s q'
        have := blanks_le' s r
        omega
theorem value_lt {s : Tx} {f deep p q : Nat} {j : J} (h : valueS s f deep p = .ok (j, q)) : p < q ∧ q ≤ s.length := (all_lt s f).1 _ _ _ _ h
end Go.Proofs.YtmhmjlfajlpabaaDoor
set_option maxRecDepth 100000
namespace Go.Proofs.YtmhmjlfajlpabaaDoor
open Go Go.Abs
variable {pr : FuncId → Option AFun} {pP : FuncId → Option PFun} [POK pr] [PPOK pr pP]
theorem prefix_ev (lim : Nat) (H : AHeap) (a b : Tx) (ha : a.length ≤ 16384) : Ev (envN code pr) 74 lim [.d (.str a), .d (.str b)] H (boolD (b.isPrefixOf a)) H := by
 have e1 : ∀ lim, Ev (envN code pr) 81 lim [.d (.str a), .d (.str b)] H (boolD (b.isPrefixOf a)) H := fun lim => by
  refine Fn.ev ?_
  refine Fn_of (pn rfl) rfl (show code 81 = some c81 from rfl) rfl ?_; simp only [List.length_cons,List.length_nil,List.cons_append,List.nil_append,simprocAttr]
  by_cases h : b.length ≤ a.length
  ·have f0 : decide ((a.length : Int) ≥ (b.length : Int)) = true := by simp; omega
   have f1 : ((b.length : Int) ≤ (a.length : Int)) = True := eq_true (by omega)
   have f2 : (a.take b.length == b) = b.isPrefixOf a := by
    rw [Bool.eq_iff_iff]
    simp only [beq_iff_eq, List.isPrefixOf_iff_prefix]
    exact ⟨fun h => ⟨a.drop b.length, (congrArg (· ++ a.drop b.length) h.symm).trans (List.take_append_drop _ _)⟩, fun ⟨t, ht⟩ => by rw [← ht]; simp⟩
   refine w_r (j_ f0 (j_ f1 f2)) ?_
   exact ans_cut rfl rfl ⟨rfl, rfl⟩
  ·have f0 : decide ((a.length : Int) ≥ (b.length : Int)) = false := by simp; omega
   have f2 : b.isPrefixOf a = false := by
    rw [Bool.eq_false_iff]
    intro hp
    have := (List.isPrefixOf_iff_prefix.1 hp).length_le
    omega
   refine w_r f0 ?_
   exact ans_cut rfl rfl ⟨by rw [f2], rfl⟩
 refine Fn.ev ?_
 refine Fn_of (pn rfl) rfl (show code 74 = some c74 from rfl) rfl ?_; simp only [List.length_cons,List.length_nil,List.cons_append,List.nil_append,simprocAttr]
 (iterate 3 refine w_s trivial ?_)
 refine w_1 (e1 H.length) trivial ?_
 refine w_r trivial ?_
 exact ans_cut rfl rfl ⟨rfl, rfl⟩
abbrev EX : Tx := [34, 92, 47, 98, 102, 110, 114, 116, 117]
theorem idx_lt (l : Tx) (c : UInt8) : decide (Lib.indexByte l c < 0) = !l.contains c := by
 rw [← idx_ge, Bool.eq_iff_iff]; simp
theorem esc_none {s : Tx} {p : Nat} (h : s[p]? = none ∨ ∃ c, s[p]? = some c ∧ EX.contains c = false) : escS s p = .error (11, p) := by
 unfold escS
 rcases h with h | ⟨c, h, hc⟩
 ·rw [h]
 ·rw [h]
  simp only [List.contains_cons, List.contains_nil, Bool.or_false, Bool.or_eq_false_iff, beq_eq_false_iff_ne, ne_eq] at hc
  obtain ⟨h1, h2, h3, h4, h5, h6, h7, h8, h9⟩ := hc
  simp only [h1, h2, h3, h4, h5, h6, h7, h8, h9, or_self, if_false]
theorem esc_u {s : Tx} {p : Nat} (h : s[p]? = some 117) : escS s p = match codeS s 4 0 (p + 1) with
   | .error e => .error e
   | .ok (n, p') => if n < 55296 ∨ 57343 < n then .ok (n, p')
    else if 56320 ≤ n ∨ ¬ (s[p']? = some 92 ∧ s[p' + 1]? = some 117) then .error (11, p - 1)
    else match codeS s 4 0 (p' + 2) with
     | .error e => .error e
     | .ok (m, q) => if m < 56320 ∨ 57343 < m then .error (11, p - 1) else .ok (65536 + (n - 55296) * 1024 + (m - 56320), q) := by
 conv => lhs; unfold escS
 rw [h]; rfl
theorem pre_two (s : Tx) (q : Nat) : ([92, 117] : Tx).isPrefixOf (s.drop q) = decide (s[q]? = some 92 ∧ s[q + 1]? = some 117) := by
 have e0 : s[q]? = (s.drop q)[0]? := by simp
 have e1 : s[q + 1]? = (s.drop q)[1]? := by simp
 rw [e0, e1]
 rcases s.drop q with _ | ⟨a, _ | ⟨b, l⟩⟩
 ·rfl
 ·simp [List.isPrefixOf]
 ·simp only [List.isPrefixOf, Bool.and_true, List.getElem?_cons_zero, List.getElem?_cons_succ, Option.some.injEq]
  rw [Bool.eq_iff_iff]; simp only [Bool.and_eq_true, beq_iff_eq, decide_eq_true_eq]
  exact ⟨fun ⟨h1, h2⟩ => ⟨h1.symm, h2.symm⟩, fun ⟨h1, h2⟩ => ⟨h1.symm, h2.symm⟩⟩
theorem shl10 (n : Nat) (h : n < 65536) : shiftInt .shl .i32 (n : Int) 10 = some (.int .i32 ((n * 1024 : Nat) : Int)) := by
 have h1 : shiftInt .shl .i32 (n : Int) 10 = some (.int .i32 (IntKind.i32.wrap ((n : Int) * 2 ^ 10))) := rfl
 have : (n : Int) * 2 ^ 10 = ((n * 1024 : Nat) : Int) := by omega
 rw [h1, this, i32n _ (by omega)]
theorem esc_ev (lim : Nat) (H : AHeap) (r : Nat) (s : Tx) (p : Nat) (gr : H[r]? = some (rdO s p)) (hl : lim ≤ r) (hs : s.length ≤ 16384) (hp : p ≤ s.length) (h1 : 1 ≤ p) :
  Fv (envN code pr) (envP code pf pr pP) 60 lim [.ptr r 0] H (fun v H' => ∃ n q, escS s p = .ok (n, q) ∧ v = i32D n ∧ H' = H.set r (rdO s q)) (fun z => ∃ e, escS s p = .error e ∧ z = stopP e.1 e.2) := by
 have wm : IntKind.i64.wrap ((p : Int) - 1) = ((p - 1 : Nat) : Int) := by rw [w64 (by omega) (by omega)]; omega
 have wp : IntKind.i64.wrap ((p : Int) + 1) = ((p + 1 : Nat) : Int) := wpos (by omega)
 have gp := rd_set gr (p + 1)
 have f2 := idx_lt EX (nx s p)
 refine Fv_of (pn rfl) rfl (by first | exact rfl | exact pnP (pr := pr) rfl) rfl (show code 60 = some c60 from rfl) rfl ?_; simp only [List.length_cons,List.length_nil,List.cons_append,List.nil_append,simprocAttr]
 refine v_r (j_ gr wm) ?_
 (apply V_drw; focus (refine Evl.call (X := (envN code pr)) (next_ev lim H r s p gr hp) (Evl.all fun k e1 => ?_); simp (maxSteps := 100000000) only [zz,zd,simprocAttr,e1]; (first | done | with_reducible exact rfl))) <;> (try simp only [zp,simprocAttr])
 refine v_r trivial ?_
 (apply V_drw; focus (refine Evl.call (X := (envN code pr)) (idx_ev lim H EX (nx s p)) (Evl.all fun k e1 => ?_); simp (maxSteps := 100000000) only [zz,zd,simprocAttr,e1]; (first | done | with_reducible exact rfl))) <;> (try simp only [zp,simprocAttr])
 by_cases hq : p = s.length
 ·have f1 : decide (p = s.length) = true := by simp [hq]
  refine v_r (j_ gr (j_ @p_eq f1)) ?_
  refine V_region ?_; apply VO_take 3; (focus (intro _; simp only [zz,simprocAttr,gr]; (first | done | with_reducible exact rfl))); simp only [List.drop_succ_cons,List.drop_zero]; refine VO_call rfl ?_; simp only [zz,simprocAttr]
  exact EvP.fv (stop_ev _ _ r 11 p) ⟨_, esc_none (.inl (List.getElem?_eq_none (by omega))), rfl⟩
 have f1 : decide (p = s.length) = false := by simp [hq]
 have hat := get_at (s := s) (p := p) (by omega)
 cases hc : EX.contains (nx s p) with
 | false =>
  rw [hc] at f2
  refine v_r (j_ gr (j_ @p_eq (j_ f1 f2))) ?_
  refine V_region ?_; apply VO_take 3; (focus (intro _; simp only [zz,simprocAttr,gr]; (first | done | with_reducible exact rfl))); simp only [List.drop_succ_cons,List.drop_zero]; refine VO_call rfl ?_; simp only [zz,simprocAttr]
  exact EvP.fv (stop_ev _ _ r 11 p) ⟨_, esc_none (.inr ⟨_, hat, hc⟩), rfl⟩
 | true =>
  rw [hc] at f2
  have hin : nx s p = 34 ∨ nx s p = 92 ∨ nx s p = 47 ∨ nx s p = 98 ∨ nx s p = 102 ∨ nx s p = 110 ∨ nx s p = 114 ∨ nx s p = 116 ∨ nx s p = 117 := by simpa using hc
  refine v_r (j_ gr (j_ @p_eq (j_ f1 f2))) ?_
  rcases hin with e | e | e | e | e | e | e | e | e
  ·have ec : ((nx s p).toNat : Int) = 34 := by rw [e]; rfl
   have wc : IntKind.i32.wrap 34 = 34 := by decide
   refine v_r (j_ gr (j_ wp (j_ hl (j_ ec wc)))) ?_
   exact ans_keep rfl ⟨34, p + 1, by unfold escS; rw [hat, e]; rfl, rfl, rfl⟩
  ·have ec : ((nx s p).toNat : Int) = 92 := by rw [e]; rfl
   have wc : IntKind.i32.wrap 92 = 92 := by decide
   refine v_r (j_ gr (j_ wp (j_ hl (j_ ec wc)))) ?_
   exact ans_keep rfl ⟨92, p + 1, by unfold escS; rw [hat, e]; rfl, rfl, rfl⟩
  ·have ec : ((nx s p).toNat : Int) = 47 := by rw [e]; rfl
   have wc : IntKind.i32.wrap 47 = 47 := by decide
   refine v_r (j_ gr (j_ wp (j_ hl (j_ ec wc)))) ?_
   exact ans_keep rfl ⟨47, p + 1, by unfold escS; rw [hat, e]; rfl, rfl, rfl⟩
  ·have ec : ((nx s p).toNat : Int) = 98 := by rw [e]; rfl
   have wc : IntKind.i32.wrap 98 = 98 := by decide
   refine v_r (j_ gr (j_ wp (j_ hl (j_ ec wc)))) ?_
   exact ans_keep rfl ⟨8, p + 1, by unfold escS; rw [hat, e]; rfl, rfl, rfl⟩
  ·have ec : ((nx s p).toNat : Int) = 102 := by rw [e]; rfl
   have wc : IntKind.i32.wrap 102 = 102 := by decide
   refine v_r (j_ gr (j_ wp (j_ hl (j_ ec wc)))) ?_
   exact ans_keep rfl ⟨12, p + 1, by unfold escS; rw [hat, e]; rfl, rfl, rfl⟩
  ·have ec : ((nx s p).toNat : Int) = 110 := by rw [e]; rfl
   have wc : IntKind.i32.wrap 110 = 110 := by decide
   refine v_r (j_ gr (j_ wp (j_ hl (j_ ec wc)))) ?_
   exact ans_keep rfl ⟨10, p + 1, by unfold escS; rw [hat, e]; rfl, rfl, rfl⟩
  ·have ec : ((nx s p).toNat : Int) = 114 := by rw [e]; rfl
   have wc : IntKind.i32.wrap 114 = 114 := by decide
   refine v_r (j_ gr (j_ wp (j_ hl (j_ ec wc)))) ?_
   exact ans_keep rfl ⟨13, p + 1, by unfold escS; rw [hat, e]; rfl, rfl, rfl⟩
  ·have ec : ((nx s p).toNat : Int) = 116 := by rw [e]; rfl
   have wc : IntKind.i32.wrap 116 = 116 := by decide
   refine v_r (j_ gr (j_ wp (j_ hl (j_ ec wc)))) ?_
   exact ans_keep rfl ⟨9, p + 1, by unfold escS; rw [hat, e]; rfl, rfl, rfl⟩
  have ec : ((nx s p).toNat : Int) = 117 := by rw [e]; rfl
  have hu := esc_u (s := s) (p := p) (by rw [hat, e])
  refine v_r (j_ gr (j_ wp (j_ hl ec))) ?_
  refine V_region ?_; refine VO_call rfl ?_; simp only [zz,simprocAttr]
  refine Fv.mono (code_ev _ _ r s (p + 1) gp hl hs (by omega)) ?_ ?_
  rotate_left
  ·rintro z ⟨e', he, rfl⟩
   exact ⟨e', by rw [hu, he], rfl⟩
  rintro v H' ⟨n, q, hcode, rfl, rfl⟩
  rw [hcode] at hu
  simp only at hu
  obtain ⟨hn, -, hq2⟩ := code_lt hcode
  have hq2 := hq2 (by omega)
  rw [rd_set2]
  have gq := rd_set gr q
  (apply VO_end; (focus (intro _; simp only [zz,simprocAttr]; (first | done | with_reducible exact rfl)))) <;> (try simp only [zp,simprocAttr])
  by_cases c1 : n < 55296
  ·have g1 : decide ((n : Int) < 55296) = true := by simp; omega
   rw [if_pos (.inl c1)] at hu
   refine v_r g1 ?_
   exact ans_keep rfl ⟨n, q, hu, rfl, rfl⟩
  have g1 : decide ((n : Int) < 55296) = false := by simp; omega
  by_cases c2 : 57343 < n
  ·have g2 : decide ((n : Int) > 57343) = true := by simp; omega
   rw [if_pos (.inr c2)] at hu
   refine v_r (j_ g1 g2) ?_
   exact ans_keep rfl ⟨n, q, hu, rfl, rfl⟩
  have g2 : decide ((n : Int) > 57343) = false := by simp; omega
  rw [if_neg (by omega)] at hu
  by_cases c3 : 56320 ≤ n
  ·have g3 : decide ((n : Int) ≥ 56320) = true := by simp; omega
   rw [if_pos (.inl c3)] at hu
   refine v_r (j_ g1 (j_ g2 g3)) ?_
   refine V_region ?_; refine VO_call rfl ?_; simp only [zz,simprocAttr]
   exact EvP.fv (stop_ev _ _ r 11 (p - 1)) ⟨_, hu, rfl⟩
  have g3 : decide ((n : Int) ≥ 56320) = false := by simp; omega
  have hpre := prefix_ev (pr := pr) lim (H.set r (rdO s q)) (s.drop q) [92, 117] (by rw [List.length_drop]; omega)
  rw [pre_two] at hpre
  have sl1 : ((q : Int) ≤ (s.length : Int)) = True := eq_true (by omega)
  have sl2 : s.take s.length = s := List.take_length
  by_cases c4 : s[q]? = some 92 ∧ s[q + 1]? = some 117
  ·rw [decide_eq_true c4] at hpre
   rw [if_neg (by rintro (h | h); exact c3 h; exact h c4)] at hu
   have wq : IntKind.i64.wrap ((q : Int) + 2) = ((q + 2 : Nat) : Int) := by rw [w64 (by omega) (by omega)]; omega
   have hql := (List.getElem?_eq_some_iff.1 c4.2).1
   refine v_r (j_ g1 g2) ?_
   (apply V_drw; focus (refine Evl.call (X := (envN code pr)) (hpre) (Evl.all fun k e1 => ?_); simp (maxSteps := 100000000) only [zz,zd,simprocAttr,gq,g3,sl1,sl2,e1]; (first | done | with_reducible exact rfl))) <;> (try simp only [zp,simprocAttr])
   (repeat ((first | refine V_sq ?_ | refine V_bk ?_ | refine V_ret ?_ | refine V_exit ?_ | refine V_skip ?_ | (apply V_rg; focus (intro _; simp only [zz,simprocAttr,gq,wq,hl,rd_set2]; (first | done | with_reducible exact rfl))) | (refine V_cT ?_ ?_; focus (simp only [zp,simprocAttr]; done)) | (refine V_cF ?_ ?_; focus (simp only [zp,simprocAttr]; done))) <;> (try simp only [zp,simprocAttr])))
   have gq2 := rd_set gr (q + 2)
   refine V_region ?_; refine VO_call rfl ?_; simp only [zz,simprocAttr]
   refine Fv.mono (code_ev _ _ r s (q + 2) gq2 hl hs (by omega)) ?_ ?_
   rotate_left
   ·rintro z ⟨e', he, rfl⟩
    rw [he] at hu
    exact ⟨e', hu, rfl⟩
   rintro v H' ⟨m, q3, hcode2, rfl, rfl⟩
   rw [hcode2] at hu
   simp only at hu
   obtain ⟨hm, -, -⟩ := code_lt hcode2
   rw [rd_set2]
   (apply VO_end; (focus (intro _; simp only [zz,simprocAttr]; (first | done | with_reducible exact rfl)))) <;> (try simp only [zp,simprocAttr])
   by_cases d1 : m < 56320
   ·have g4 : decide ((m : Int) < 56320) = true := by simp; omega
    rw [if_pos (.inl d1)] at hu
    refine v_r g4 ?_
    refine V_region ?_; refine VO_call rfl ?_; simp only [zz,simprocAttr]
    exact EvP.fv (stop_ev _ _ r 11 (p - 1)) ⟨_, hu, rfl⟩
   have g4 : decide ((m : Int) < 56320) = false := by simp; omega
   by_cases d2 : 57343 < m
   ·have g5 : decide ((m : Int) > 57343) = true := by simp; omega
    rw [if_pos (.inr d2)] at hu
    refine v_r (j_ g4 g5) ?_
    refine V_region ?_; refine VO_call rfl ?_; simp only [zz,simprocAttr]
    exact EvP.fv (stop_ev _ _ r 11 (p - 1)) ⟨_, hu, rfl⟩
   have g5 : decide ((m : Int) > 57343) = false := by simp; omega
   rw [if_neg (by omega)] at hu
   have a1 : IntKind.i32.wrap ((n : Int) - 55296) = ((n - 55296 : Nat) : Int) := by rw [w32 (by omega) (by omega)]; omega
   have a2 := shl10 (n - 55296) (by omega)
   have a3 : IntKind.i32.wrap (65536 + (((n - 55296) * 1024 : Nat) : Int)) = ((65536 + (n - 55296) * 1024 : Nat) : Int) := by rw [w32 (by omega) (by omega)]; omega
   have a4 : IntKind.i32.wrap (((65536 + (n - 55296) * 1024 : Nat) : Int) + (m : Int)) = ((65536 + (n - 55296) * 1024 + m : Nat) : Int) := by rw [w32 (by omega) (by omega)]; omega
   have a5 : IntKind.i32.wrap (((65536 + (n - 55296) * 1024 + m : Nat) : Int) - 56320) = ((65536 + (n - 55296) * 1024 + (m - 56320) : Nat) : Int) := by rw [w32 (by omega) (by omega)]; omega
   refine v_r (j_ g4 g5) ?_
   refine v_r (j_ a1 (j_ a2 (j_ a3 (j_ a4 a5)))) ?_
   exact ans_keep rfl ⟨_, q3, hu, rfl, rfl⟩
  ·rw [decide_eq_false c4] at hpre
   rw [if_pos (.inr c4)] at hu
   refine v_r (j_ g1 g2) ?_
   (apply V_drw; focus (refine Evl.call (X := (envN code pr)) (hpre) (Evl.all fun k e1 => ?_); simp (maxSteps := 100000000) only [zz,zd,simprocAttr,gq,g3,sl1,sl2,e1]; (first | done | with_reducible exact rfl))) <;> (try simp only [zp,simprocAttr])
   refine v_r trivial ?_
   refine V_region ?_; refine VO_call rfl ?_; simp only [zz,simprocAttr]
   exact EvP.fv (stop_ev _ _ r 11 (p - 1)) ⟨_, hu, rfl⟩
end Go.Proofs.YtmhmjlfajlpabaaDoor
namespace Go.Proofs.YtmhmjlfajlpabaaDoor
open Go Go.Abs Go.Lib
theorem dec_at (s : List UInt8) (i : Nat) : dec s i = decodeN (s.length - i) (by' s i) (by' s (i + 1)) (by' s (i + 2)) (by' s (i + 3)) := by
 have e : ∀ j, ((⟨s.toArray⟩ : ByteArray).get! j).toNat = by' s j := fun j => by
  unfold by'
  show (s.toArray[j]!).toNat = _
  rw [Array.getElem!_eq_getD]
  simp only [Array.getD_eq_getD_getElem?, List.getElem?_toArray]
  cases s[j]? <;> rfl
 unfold dec
 rw [decode_at]
 simp only [e]
 rfl
theorem dec_dc (s : List UInt8) (i : Nat) : dec s i = dc (s.drop i) := by
 rw [dec_at]; unfold dc; simp only [by_drop, List.length_drop, Nat.add_zero]
theorem tab0_eq : tab0 = (List.range 256).map fun b => .int .u8 (firstT b : Nat) := by kernel_rfl
theorem tab0_get {b : Nat} (h : b < 256) : (tab0.drop b)[0]? = some (.int .u8 (firstT b : Nat)) := by
 rw [tab0_eq, List.getElem?_drop, Nat.add_zero, List.getElem?_map, List.getElem?_range h]; rfl
end Go.Proofs.YtmhmjlfajlpabaaDoor
set_option maxRecDepth 100000
namespace Go.Proofs.YtmhmjlfajlpabaaDoor
open Go Go.Abs
variable {pr : FuncId → Option AFun} {pP : FuncId → Option PFun} [POK pr] [PPOK pr pP]
theorem dg_drop {s : Tx} {p : Nat} (h : p < s.length) : dg (s.drop p) = dec s p := by
 unfold dg
 rw [if_neg (by rw [List.length_drop]; omega), dec_dc, dec_dc, List.drop_zero]
theorem dec_ev (lim : Nat) (H : AHeap) (t : Tx) : Ev (envN code pr) 35 lim [.d (.str t)] H (.tuple [.d (.int .i32 ((dg t).1 : Nat)), intD ((dg t).2 : Nat)]) H := Ev_prim (F := decF) POK.dec rfl
theorem broken_ev (lim : Nat) (H : AHeap) (s : Tx) (hs : s.length ≤ 1000000000) : Ev (envN code pr) 22 lim [.d (.str s)] H (intD (brokenN s)) H := by
 refine Fn.ev ?_
 refine Fn_of (pn rfl) rfl (show code 22 = some c22 from rfl) rfl ?_; simp only [List.length_cons,List.length_nil,List.cons_append,List.nil_append,simprocAttr]
 (iterate 6 refine w_s trivial ?_)
 refine W_lp (fun m st => ∃ p f, p ≤ s.length ∧ m = s.length - p ∧ s.length - p < f ∧ brokenN s = brokenS s f p ∧ ∃ x : Nat → AV, st = ⟨[.d (.str s), x 1, x 2, x 3, x 4, .ptr H.length 0, x 6, x 7, x 8, x 9, x 10, x 11], H ++ [.siter s p]⟩) ?_ _ _ ⟨0, s.length + 1, Nat.zero_le _, rfl, by omega, rfl, ex_st _ _ _ rfl⟩
 rintro m _ ⟨p, f, hp, rfl, hf, hb, x, rfl⟩
 obtain ⟨f, rfl⟩ : ∃ k, f = k + 1 := ⟨f - 1, by omega⟩
 unfold brokenS at hb
 by_cases h0 : p < s.length
 ·rw [if_pos h0] at hb
  have hd := dg_drop h0
  have hdc := dec_dc s p
  have hpos : 1 ≤ (dec s p).2 := by rw [hdc]; exact dc_pos _
  have hle : (dec s p).2 ≤ s.length - p := by
   rw [hdc]
   have := dc_le (s := s.drop p) (by intro e; have := congrArg List.length e; rw [List.length_drop] at this; simp at this; omega)
   rwa [List.length_drop] at this
  have s1 : ((p : Int) ≤ (s.length : Int)) = True := eq_true (by omega)
  have s2 : s.take s.length = s := List.take_length
  have s3 : ((0 : Int) ≤ (p : Int)) = True := eq_true (by omega)
  generalize hD : dec s p = D at *
  obtain ⟨c, n⟩ := D
  have he : Ev (envN code pr) 35 H.length [.d (.str (s.drop p))] (H ++ [.siter s (p + n)]) (.tuple [.d (.int .i32 (c : Nat)), intD (n : Nat)]) (H ++ [.siter s (p + n)]) := by
   have := dec_ev (pr := pr) H.length (H ++ [.siter s (p + n)]) (s.drop p)
   rwa [hd] at this
  have next : ∀ {st : St}, brokenN s = brokenS s f (p + n) → (∃ x : Nat → AV, st = ⟨[.d (.str s), x 1, x 2, x 3, x 4, .ptr H.length 0, x 6, x 7, x 8, x 9, x 10, x 11], H ++ [.siter s (p + n)]⟩) →
    ∃ m, m < s.length - p ∧ ∃ p f, p ≤ s.length ∧ m = s.length - p ∧ s.length - p < f ∧ brokenN s = brokenS s f p ∧ ∃ x : Nat → AV, st = ⟨[.d (.str s), x 1, x 2, x 3, x 4, .ptr H.length 0, x 6, x 7, x 8, x 9, x 10, x 11], H ++ [.siter s p]⟩ :=
   fun h1 h2 => ⟨s.length - (p + n), by simp only at hpos hle; omega, p + n, f, by simp only at hpos hle; omega, rfl, by simp only at hpos hle; omega, h1, h2⟩
  simp only at hpos hle
  by_cases h1 : c = 65533
  ·subst h1
   have c1 : (((65533 : Nat) : Int) == 65533) = true := rfl
   by_cases h2 : n = 1
   ·subst h2
    rw [if_pos rfl] at hb
    have c2 : (((1 : Nat) : Int) == 1) = true := rfl
    refine w_r (j_ h0 (j_ hD c1)) ?_
    refine w_1 he (j_ s1 (j_ s2 s3)) ?_
    refine w_r c2 ?_
    exact ans_cut rfl rfl ⟨by rw [hb], rfl⟩
   ·rw [if_neg (by simpa using h2)] at hb
    have c2 : ((n : Int) == 1) = false := by simp; omega
    refine w_r (j_ h0 (j_ hD c1)) ?_
    refine w_1 he (j_ s1 (j_ s2 s3)) ?_
    refine w_r c2 ?_
    exact next hb (ex_st _ _ _ rfl)
  ·rw [if_neg (by simp [h1])] at hb
   have c1 : ((c : Int) == 65533) = false := by simp; omega
   refine w_r (j_ h0 (j_ hD c1)) ?_
   exact next hb (ex_st _ _ _ rfl)
 ·rw [if_neg h0] at hb
  refine w_r h0 ?_
  exact ans_cut rfl rfl ⟨by rw [hb], rfl⟩
end Go.Proofs.YtmhmjlfajlpabaaDoor
namespace Go.Proofs.YtmhmjlfajlpabaaDoor
open Go Go.Abs
theorem bless : ∀ (x y : List UInt8), Op.bytesLess x y = decide (x < y)
 | [], [] => by simp [Op.bytesLess]
 | _ :: _, [] => by simp [Op.bytesLess]
 | [], _ :: _ => by simp [Op.bytesLess]
 | a :: x, b :: y => by
  rw [Op.bytesLess, bless x y]
  simp only [List.cons_lt_cons_iff]
  by_cases h1 : a < b <;> by_cases h2 : a = b <;> by_cases h3 : x < y <;> simp [h1, h2, h3]
theorem tless_iff (a b : Tx) : tless a b = true ↔ a < b := by rw [tless, bless]; simp
abbrev keyAt (ks : List Tx) (i : Nat) : Tx := ks.getD i []
theorem insK_perm (ks : List Tx) (i : Nat) : ∀ l : List Nat, (insK ks i l).Perm (i :: l)
 | [] => .refl _
 | j :: l => by
  unfold insK
  split
  ·exact ((insK_perm ks i l).cons j).trans (.swap i j l)
  ·exact .refl _
theorem sortK_perm (ks : List Tx) : ∀ l : List Nat, (sortK ks l).Perm l
 | [] => .refl _
 | i :: l => (insK_perm ks i _).trans ((sortK_perm ks l).cons i)
abbrev leK (ks : List Tx) (i j : Nat) : Prop := ¬ keyAt ks j < keyAt ks i
theorem leK_trans {ks : List Tx} {i j k : Nat} (h1 : leK ks i j) (h2 : leK ks j k) : leK ks i k := by
 unfold leK at *
 rw [List.not_lt] at *
 exact List.le_trans h1 h2
theorem insK_sorted (ks : List Tx) (i : Nat) : ∀ l : List Nat, l.Pairwise (leK ks) → (insK ks i l).Pairwise (leK ks)
 | [], _ => by simp [insK]
 | j :: l, h => by
  unfold insK
  obtain ⟨h1, h2⟩ := List.pairwise_cons.1 h
  split
  ·rename_i hc
   rw [tless_iff] at hc
   refine List.pairwise_cons.2 ⟨fun k hk => ?_, insK_sorted ks i l h2⟩
   rcases List.mem_cons.1 ((insK_perm ks i l).mem_iff.1 hk) with rfl | hk
   ·exact fun h => List.lt_irrefl _ (List.lt_trans h hc)
   ·exact h1 k hk
  ·rename_i hc
   rw [tless_iff] at hc
   refine List.pairwise_cons.2 ⟨fun k hk => ?_, h⟩
   rcases List.mem_cons.1 hk with rfl | hk
   ·exact hc
   ·exact leK_trans hc (h1 k hk)
theorem sortK_sorted (ks : List Tx) : ∀ l : List Nat, (sortK ks l).Pairwise (leK ks)
 | [] => by simp [sortK]
 | i :: l => insK_sorted ks i _ (sortK_sorted ks l)
theorem byKeys_perm (ks : List Tx) : (byKeys ks).Perm (List.range ks.length) := sortK_perm ks _
theorem byKeys_length (ks : List Tx) : (byKeys ks).length = ks.length := by rw [(byKeys_perm ks).length_eq, List.length_range]
theorem byKeys_mem {ks : List Tx} {i : Nat} : i ∈ byKeys ks ↔ i < ks.length := by rw [(byKeys_perm ks).mem_iff, List.mem_range]
theorem byKeys_lt {ks : List Tx} {i : Nat} (h : i ∈ byKeys ks) : i < ks.length := byKeys_mem.1 h
theorem byKeys_nodup (ks : List Tx) : (byKeys ks).Nodup := (byKeys_perm ks).nodup_iff.2 List.nodup_range
theorem keyAt_inj {ks : List Tx} (hd : ks.Nodup) {i j : Nat} (hi : i < ks.length) (hj : j < ks.length) (h : keyAt ks i = keyAt ks j) : i = j := by
 simp only [keyAt, List.getD, List.getElem?_eq_getElem hi, List.getElem?_eq_getElem hj, Option.getD_some] at h
 exact (List.getElem?_inj hi hd).1 (by rw [List.getElem?_eq_getElem hi, List.getElem?_eq_getElem hj, h])
theorem leK_anti {ks : List Tx} (hd : ks.Nodup) {i j : Nat} (hi : i < ks.length) (hj : j < ks.length) (h1 : leK ks i j) (h2 : leK ks j i) : i = j := by
 refine keyAt_inj hd hi hj ?_
 unfold leK at h1 h2
 rw [List.not_lt] at h1 h2
 exact List.le_antisymm h1 h2
theorem byKeys_unique {ks : List Tx} (hd : ks.Nodup) {l : List Nat} (hp : l.Perm (List.range ks.length)) (hs : l.Pairwise (leK ks)) : l = byKeys ks := by
 refine List.Perm.eq_of_pairwise (le := leK ks) (fun a b ha hb h1 h2 => ?_) hs (sortK_sorted ks _) (hp.trans (byKeys_perm ks).symm)
 exact leK_anti hd (List.mem_range.1 (hp.mem_iff.1 ha)) (byKeys_lt hb) h1 h2
theorem nless_iff (a b : Tx) : (!tless b a) = true ↔ ¬ b < a := by rw [← tless_iff]; cases tless b a <;> simp
theorem byKeys_merge {ks : List Tx} (hd : ks.Nodup) : (List.range ks.length).mergeSort (fun i j => !tless (keyAt ks j) (keyAt ks i)) = byKeys ks := by
 refine byKeys_unique hd (List.mergeSort_perm _ _) ?_
 have := List.pairwise_mergeSort (le := fun i j => !tless (keyAt ks j) (keyAt ks i)) (fun a b c h1 h2 => ?_) (fun a b => ?_) (List.range ks.length)
 ·exact this.imp fun {a b} h => (nless_iff _ _).1 h
 ·exact (nless_iff _ _).2 (leK_trans (ks := ks) (i := a) (j := b) (k := c) ((nless_iff _ _).1 h1) ((nless_iff _ _).1 h2))
 ·rw [Bool.or_eq_true, nless_iff, nless_iff]
  by_cases h : keyAt ks b < keyAt ks a
  ·exact .inr fun h2 => List.lt_irrefl _ (List.lt_trans h h2)
  ·exact .inl h
theorem byKeys_grow {ks : List Tx} (hd : ks.Nodup) : (byKeys ks).Pairwise fun i j => keyAt ks i < keyAt ks j := by
 have h1 := sortK_sorted ks (List.range ks.length)
 have h2 := byKeys_nodup ks
 have h3 : (byKeys ks).Pairwise fun i j => leK ks i j ∧ i ≠ j ∧ i < ks.length ∧ j < ks.length := by
  rw [List.pairwise_iff_getElem] at h1 ⊢
  intro i j hi hj hij
  refine ⟨h1 i j hi hj hij, fun e => ?_, byKeys_lt (List.getElem_mem _), byKeys_lt (List.getElem_mem _)⟩
  exact Nat.ne_of_lt hij ((List.getElem?_inj hi h2).1 (by rw [List.getElem?_eq_getElem hi, List.getElem?_eq_getElem hj, e]))
 refine h3.imp fun {i j} ⟨q1, q2, q3, q4⟩ => ?_
 by_cases h : keyAt ks i < keyAt ks j
 ·exact h
 ·exact absurd (leK_anti hd q3 q4 q1 h) q2
end Go.Proofs.YtmhmjlfajlpabaaDoor
set_option maxRecDepth 100000
namespace Go.Proofs.YtmhmjlfajlpabaaDoor
open Go Go.Abs
variable {pr : FuncId → Option AFun} {pP : FuncId → Option PFun} [POK pr] [PPOK pr pP]
theorem strsOf_map : ∀ ks : List Tx, strsOf (ks.map D.str) = some ks
 | [] => rfl
 | k :: ks => by
  show (strsOf (ks.map D.str)).map (fun r => k :: r) = _
  rw [strsOf_map ks]; rfl
def rowI (n i : Nat) : List AV := (List.range n).map fun j => if j < i then intD (j : Nat) else intD 0
theorem rowI_len (n i : Nat) : (rowI n i).length = n := by simp [rowI]
theorem rowI_zero (n : Nat) : (List.replicate n [intD 0]).flatten = rowI n 0 := by
 apply List.ext_getElem
 ·simp [rowI, List.length_flatten]
 ·intro i h1 h2
  simp [rowI]
theorem rowI_all (n : Nat) : rowI n n = (List.range n).map fun (j : Nat) => intD (j : Int) := by
 unfold rowI
 apply List.map_congr_left
 intro j hj
 rw [if_pos (List.mem_range.1 hj)]
theorem rowI_set {n i : Nat} (h : i < n) : splice (rowI n i) i [intD (i : Nat)] = rowI n (i + 1) := by
 unfold splice
 apply List.ext_getElem?
 intro j
 have hl : ((rowI n i).take i).length = i := by simp [rowI]; omega
 by_cases h1 : j < i
 ·rw [List.getElem?_append_left (by omega), List.getElem?_take, if_pos h1]
  simp only [rowI, List.getElem?_map]
  rw [List.getElem?_range (by omega)]
  simp [h1, show j < i + 1 by omega]
 ·rw [List.getElem?_append_right (by omega), hl]
  by_cases h2 : j = i
  ·subst h2
   simp [rowI, h]
  ·rw [List.getElem?_append_right (by simp; omega), List.getElem?_drop, show i + [intD (i : Nat)].length + (j - i - [intD (i : Nat)].length) = j by simp; omega]
   simp only [rowI, List.getElem?_map]
   by_cases h3 : j < n
   ·rw [List.getElem?_range h3]
    simp [h1, show ¬ j < i + 1 by omega]
   ·rw [List.getElem?_eq_none (by simp; omega)]; rfl
theorem chunks_ints : ∀ (l : List Nat) (R : List AV), chunks 1 false l.length (l.map (fun (i : Nat) => intD (i : Int)) ++ R) = some (l.map fun (i : Nat) => D.int .i64 (i : Int))
 | [], _ => rfl
 | a :: l, R => by
  have := chunks_ints l R
  simp only [List.map_cons, List.cons_append, List.length_cons, chunks, List.take_succ_cons, List.take_zero, AV.toDs, AV.toD, List.drop_succ_cons, List.drop_zero, this]
  rfl
theorem places_ev (lim : Nat) (H : AHeap) (ks : List Tx) (hk : ks.length < 1000000000000) (hd : ks.Nodup) : Ev (envN code pr) 44 lim [.d (sD ks)] H (.d (.slice ((byKeys ks).map fun (i : Nat) => D.int .i64 (i : Int)))) H := by
 refine Fn.ev ?_
 refine Fn_of (pn rfl) rfl (show code 44 = some c44 from rfl) rfl ?_; simp only [List.length_cons,List.length_nil,List.cons_append,List.nil_append,simprocAttr]
 have e0 := rowI_zero ks.length
 have c1 : ((ks.length : Int) * 8 ≤ 281474976710656) = True := eq_true (by omega)
 have c2 : ((ks.length : Int) ≤ 281474976710656) = True := eq_true (by omega)
 have a1 : (H ++ [AObj.cells [.d (sD ks)]]).length = H.length + 1 := by simp
 have a2 : ∀ o, H ++ [AObj.cells [.d (sD ks)]] ++ [o] = H ++ [AObj.cells [.d (sD ks)], o] := fun o => by simp
 (iterate 4 refine w_s (j_ (@List.length_map.{0,0}) (j_ e0 (j_ c1 (j_ c2 (j_ a1 a2))))) ?_)
 have g1 : ∀ o : AObj, (H ++ [AObj.cells [.d (sD ks)], o])[H.length + 1]? = some o := fun o => by rw [List.getElem?_append_right (by omega)]; simp
 have g0 : ∀ o : AObj, (H ++ [AObj.cells [.d (sD ks)], o])[H.length]? = some (.cells [.d (sD ks)]) := fun o => by rw [List.getElem?_append_right (by omega)]; simp
 have s1 : ∀ o o' : AObj, (H ++ [AObj.cells [.d (sD ks)], o]).set (H.length + 1) o' = H ++ [AObj.cells [.d (sD ks)], o'] := fun o o' => by rw [List.set_append_right _ _ (by omega)]; simp
 have hll : H.length ≤ H.length + 1 := by omega
 (iterate 4 refine w_s trivial ?_)
 refine W_lp (fun k st => ∃ i : Nat, i ≤ ks.length ∧ k = ks.length - i ∧ ∃ x : Nat → AV, st = ⟨[x 0, x 1, x 2, .ptr H.length 0, .oslice (H.length + 1) 0 ks.length ks.length 1, intD ks.length, intD i, x 7, x 8, x 9], H ++ [AObj.cells [.d (sD ks)], .cells (rowI ks.length i)]⟩) ?_ _ _ ⟨0, Nat.zero_le _, rfl, ex_st _ _ _ rfl⟩
 rintro k _ ⟨i, hi, rfl, x, rfl⟩
 by_cases t0 : i < ks.length
 ·have f1 : ((i : Int) < (ks.length : Int)) = True := eq_true (by omega)
  have w1 : IntKind.i64.wrap ((i : Int) + 1) = ((i + 1 : Nat) : Int) := wsucc (by omega)
  have hs := rowI_set t0
  have hl := rowI_len ks.length i
  have hl2 : i + 1 ≤ ks.length := t0
  simp only [splice, List.length_cons, List.length_nil, Nat.zero_add, List.cons_append, List.nil_append] at hs
  generalize rowI ks.length i = R at *
  refine w_r (j_ f1 (j_ g1 (j_ s1 (j_ w1 (j_ hs (j_ hl (j_ hl2 (j_ hll @Nat.mul_one)))))))) ?_
  exact ⟨ks.length - (i + 1), by omega, i + 1, t0, rfl, ex_st _ _ _ rfl⟩
 ·obtain rfl : i = ks.length := by omega
  have f1 : ((ks.length : Int) < (ks.length : Int)) = False := eq_false (by omega)
  have es : Ev (envN code pr) 62 H.length [.oslice (H.length + 1) 0 ks.length ks.length 1, .func (.func 63) [.ptr H.length 0]] (H ++ [AObj.cells [.d (sD ks)], .cells (rowI ks.length ks.length)]) (.tuple []) (H ++ [AObj.cells [.d (sD ks)], .cells ((byKeys ks).map fun (i : Nat) => intD (i : Int))]) := by
   refine Ev_prim (F := sortF) POK.sort ?_
   have hc : H.length ≤ H.length + 1 ∧ H.length + 1 ≠ H.length ∧ True ∧ ks.length < 1000000000000 ∧ ks.Nodup ∧ (rowI ks.length ks.length).length = ks.length ∧ AObj.beq (.cells (rowI ks.length ks.length)) (.cells ((List.range ks.length).map fun (i : Nat) => intD (i : Int))) = true := by
    refine ⟨hll, by omega, trivial, hk, hd, rowI_len _ _, ?_⟩
    rw [rowI_all]; exact AV.beqs_self _
   simp only [sortF, g1, g0, strsOf_map, if_pos hc, s1]
  have ch := chunks_ints (byKeys ks) []
  rw [List.append_nil, byKeys_length] at ch
  refine w_r f1 ?_
  refine w_1 es trivial ?_
  refine w_r trivial ?_
  refine ans_cut (vs := [.oslice (H.length + 1) 0 ks.length ks.length 1]) rfl ?_ ⟨rfl, rfl⟩
  have hc2 : H.length ≤ H.length + 1 ∧ 0 < 1 := ⟨hll, by omega⟩
  simp only [oneOf, Go.Abs.freeze, if_pos hc2, g1, List.drop_zero]
  rw [if_pos (by simp [byKeys_length]), show (1 != 1) = false from rfl, ch]
  rfl
end Go.Proofs.YtmhmjlfajlpabaaDoor
set_option maxRecDepth 100000
namespace Go.Proofs.YtmhmjlfajlpabaaDoor
open Go Go.Abs
theorem one_more {H : AHeap} {r : Nat} {o : AObj} (gr : H[r]? = some o) (B : AObj) : ∃ KK : AObj → AObj → AHeap, (∀ x y, KK x y = H.set r x ++ [y]) ∧ KK o B = H ++ [B] ∧ (∀ x y, (KK x y)[r]? = some x) ∧ (∀ x y, (KK x y)[H.length]? = some y) ∧
  (∀ x x' y, (KK x y).set r x' = KK x' y) ∧ (∀ x y y', (KK x y).set H.length y' = KK x y') ∧ r ≤ H.length := by
 obtain ⟨hr, e⟩ := List.getElem?_eq_some_iff.1 gr
 refine ⟨fun x y => H.set r x ++ [y], fun _ _ => rfl, ?_, fun x y => ?_, fun x y => ?_, fun x x' y => ?_, fun x y y' => ?_, ?_⟩
 ·simp only; rw [← e, List.set_getElem_self hr]
 ·simp only; rw [List.getElem?_append_left (by simpa using hr)]; simp [hr]
 ·simp only; rw [List.getElem?_append_right (by simp)]; simp
 ·simp only; rw [List.set_append_left _ _ (by simpa using hr), List.set_set]
 ·simp only; rw [List.set_append_right _ _ (by simp)]; simp
 ·exact Nat.le_of_lt hr
def firstS (s : Tx) (p : Nat) : Nat := if nx s p = 45 then p + 1 else p
theorem nx_lt {s : Tx} {p : Nat} (h : nx s p ≠ 0) : p < s.length := by
 rcases Nat.lt_or_ge p s.length with h1 | h1
 ·exact h1
 ·exact absurd (nx_end h1) h
theorem number_eq (s : Tx) (p : Nat) : numberS s p = if isDigit (nx s (firstS s p)) then match digitsS s (firstS s p) (s.length + 1) 0 (firstS s p) with
  | .error e => .error e
  | .ok (n, q) => if 9007199254740991 < n ∨ nx s q = 46 ∨ nx s q = 101 ∨ nx s q = 69 then .error (15, p)
   else .ok (.mk 2 (if p < firstS s p then -(n : Int) else n) [] [] [], q)
 else .error (11, firstS s p) := rfl
abbrev zC : AObj := .cells [intD 0, intD 0, .d (.str []), .fslice [], .fslice []]
theorem number_ev (lim : Nat) (H : AHeap) (r : Nat) (s : Tx) (p : Nat) (gr : H[r]? = some (rdO s p)) (hl : lim ≤ r) (hs : s.length ≤ 16384) (hp : p ≤ s.length) :
  Fv X0 XP 43 lim [.ptr r 0] H (fun v H' => ∃ j q, numberS s p = .ok (j, q) ∧ v = .d j.d ∧ H' = H.set r (rdO s q)) (fun z => ∃ e, numberS s p = .error e ∧ z = stopP e.1 e.2) := by
 refine Fv_ofC (pn rfl) rfl (by first | exact rfl | exact pnP (pr := prims0) rfl) rfl (show code 43 = some c43 from rfl) rfl ?_; simp only [List.length_cons,List.length_nil,List.cons_append,List.nil_append,simprocAttr]
 obtain ⟨KK, kk0, kk1, kk2, kk3, kk4, kk5, hrl⟩ := one_more gr zC
 have hll := Nat.le_trans hl hrl
 (iterate 2 refine v_s trivial ?_)
 rw [← kk1]
 (iterate 2 refine v_s kk2 ?_)
 refine V_mid (fun st => ∃ x : Nat → AV, st = ⟨[.ptr r 0, x 1, x 2, x 3, x 4, x 5, x 6, x 7, .ptr H.length 0, intD p, x 10, x 11, x 12, x 13, x 14, x 15], KK (rdO s (firstS s p)) zC⟩) ?_ ?_
 ·have wp : IntKind.i64.wrap ((p : Int) + 1) = ((p + 1 : Nat) : Int) := wpos (by omega)
  by_cases h : nx s p = 45
  ·have hf : firstS s p = p + 1 := if_pos h
   have c1 : (((nx s p).toNat : Int) == 45) = true := u8_t h rfl
   rw [hf]
   refine v_r trivial ?_
   (apply V_drw; focus (refine Evl.call (X := X0) (next_ev lim (KK (rdO s p) zC) r s p (kk2 _ _) hp) (Evl.all fun k e1 => ?_); simp (maxSteps := 100000000) only [zz,zd,simprocAttr,c1,e1]; (first | done | with_reducible exact rfl))) <;> (try simp only [zp,simprocAttr])
   refine v_r (j_ kk2 (j_ kk4 (j_ wp hl))) ?_
   exact ex_st _ _ _ rfl
  ·have hf : firstS s p = p := if_neg h
   have c1 : (((nx s p).toNat : Int) == 45) = false := u8_f h rfl
   rw [hf]
   refine v_r trivial ?_
   (apply V_drw; focus (refine Evl.call (X := X0) (next_ev lim (KK (rdO s p) zC) r s p (kk2 _ _) hp) (Evl.all fun k e1 => ?_); simp (maxSteps := 100000000) only [zz,zd,simprocAttr,c1,e1]; (first | done | with_reducible exact rfl))) <;> (try simp only [zp,simprocAttr])
   refine v_r trivial ?_
   exact ex_st _ _ _ rfl
 rintro _ ⟨x, rfl⟩
 have hfl : firstS s p ≤ s.length ∧ p ≤ firstS s p := by
  unfold firstS
  split
  ·rename_i h; have := nx_lt (s := s) (p := p) (by rw [h]; decide); omega
  ·omega
 rw [number_eq]
 generalize hf : firstS s p = f at hfl ⊢
 cases hd : isDigit (nx s f) with
 | false =>
  refine v_r kk2 ?_
  (apply V_drw; focus (refine Evl.call (X := X0) (next_ev lim (KK (rdO s f) zC) r s f (kk2 _ _) hfl.1) (Evl.call (X := X0) (digit_ev lim (KK (rdO s f) zC) (nx s f)) (Evl.all fun k e2 e1 => ?_)); simp (maxSteps := 100000000) only [zz,zd,simprocAttr,hd,e2,e1]; (first | done | with_reducible exact rfl))) <;> (try simp only [zp,simprocAttr])
  refine v_r trivial ?_
  refine V_region ?_; apply VO_take 3; (focus (intro _; simp only [zz,simprocAttr,kk2]; (first | done | with_reducible exact rfl))); simp only [List.drop_succ_cons,List.drop_zero]; refine VO_call rfl ?_; simp only [zz,simprocAttr]
  exact EvP.fv (stop_ev _ _ r 11 f) ⟨_, rfl, rfl⟩
 | true =>
  refine v_r kk2 ?_
  (apply V_drw; focus (refine Evl.call (X := X0) (next_ev lim (KK (rdO s f) zC) r s f (kk2 _ _) hfl.1) (Evl.call (X := X0) (digit_ev lim (KK (rdO s f) zC) (nx s f)) (Evl.all fun k e2 e1 => ?_)); simp (maxSteps := 100000000) only [zz,zd,simprocAttr,hd,e2,e1]; (first | done | with_reducible exact rfl))) <;> (try simp only [zp,simprocAttr])
  refine v_r trivial ?_
  refine V_lp (fun m st => ∃ n q, f ≤ q ∧ q ≤ s.length ∧ m = s.length - q ∧ n ≤ 90071992547409919 ∧ digitsS s f (s.length + 1) 0 f = digitsS s f (s.length + 1 - (q - f)) n q ∧ ∃ x : Nat → AV, st = ⟨[.ptr r 0, x 1, x 2, x 3, x 4, x 5, x 6, x 7, .ptr H.length 0, intD p, intD f, intD n, x 12, x 13, x 14, x 15], KK (rdO s q) zC⟩) ?_ _ _ ⟨0, f, Nat.le_refl _, hfl.1, rfl, by omega, by rw [Nat.sub_self]; rfl, ex_st _ _ _ rfl⟩
  rintro m _ ⟨n, q, hq1, hq2, rfl, hn, hdg, x, rfl⟩
  cases hd2 : isDigit (nx s q) with
  | true =>
   have hql : q < s.length := nx_lt fun h => by rw [h] at hd2; cases hd2
   have hstep : digitsS s f (s.length + 1 - (q - f)) n q = if q = f + 1 ∧ nx s f = 48 then .error (11, q) else digitsS s f (s.length + 1 - (q + 1 - f)) (if n ≤ 9007199254740991 then 10 * n + ((nx s q).toNat - 48) else n) (q + 1) := by
    rw [show s.length + 1 - (q - f) = (s.length + 1 - (q + 1 - f)) + 1 by omega]
    conv => lhs; unfold digitsS
    rw [hd2, if_pos rfl]
   refine v_r trivial ?_
   (apply V_drw; focus (refine Evl.call (X := X0) (next_ev lim (KK (rdO s q) zC) r s q (kk2 _ _) hq2) (Evl.call (X := X0) (digit_ev lim (KK (rdO s q) zC) (nx s q)) (Evl.all fun k e2 e1 => ?_)); simp (maxSteps := 100000000) only [zz,zd,simprocAttr,hd2,e2,e1]; (first | done | with_reducible exact rfl))) <;> (try simp only [zp,simprocAttr])
   have hdd := hd2
   rw [dig_eq, Bool.and_eq_true, decide_eq_true_eq, decide_eq_true_eq] at hdd
   have wf : IntKind.i64.wrap ((f : Int) + 1) = ((f + 1 : Nat) : Int) := wpos (by omega)
   have wq : IntKind.i64.wrap ((q : Int) + 1) = ((q + 1 : Nat) : Int) := wpos (by omega)
   have hfa := get_at (s := s) (p := f) (by omega)
   have gq := kk2 (rdO s q) zC
   by_cases z1 : q = f + 1 ∧ nx s f = 48
   ·have c1 : decide (q = f + 1) = true := decide_eq_true z1.1
    have c2 : (((nx s f).toNat : Int) == 48) = true := u8_t z1.2 rfl
    rw [if_pos z1] at hstep
    (repeat ((first | refine V_sq ?_ | refine V_bk ?_ | refine V_ret ?_ | refine V_exit ?_ | refine V_skip ?_ | (apply V_rg; focus (intro _; simp only [zz,simprocAttr,gq,wf,p_eq,c1,c2,hfa,byteD']; (first | done | with_reducible exact rfl))) | (refine V_cT ?_ ?_; focus (simp only [zp,simprocAttr]; done)) | (refine V_cF ?_ ?_; focus (simp only [zp,simprocAttr]; done))) <;> (try simp only [zp,simprocAttr])))
    refine V_region ?_; apply VO_take 3; (focus (intro _; simp only [zz,simprocAttr,gq]; (first | done | with_reducible exact rfl))); simp only [List.drop_succ_cons,List.drop_zero]; refine VO_call rfl ?_; simp only [zz,simprocAttr]
    exact EvP.fv (stop_ev _ _ r 11 q) ⟨_, by rw [hdg, hstep], rfl⟩
   rw [if_neg z1] at hstep
   have w1 : IntKind.u8.wrap (((nx s q).toNat : Int) - 48) = (((nx s q).toNat - 48 : Nat) : Int) := by
    rw [← u8w ((nx s q).toNat - 48) (by omega)]; congr 1; omega
   have w2 : IntKind.i64.wrap (((nx s q).toNat - 48 : Nat) : Int) = (((nx s q).toNat - 48 : Nat) : Int) := w64n _ (by omega)
   have next : ∀ {st : St} {n' : Nat}, n' = (if n ≤ 9007199254740991 then 10 * n + ((nx s q).toNat - 48) else n) → (∃ x : Nat → AV, st = ⟨[.ptr r 0, x 1, x 2, x 3, x 4, x 5, x 6, x 7, .ptr H.length 0, intD p, intD f, intD n', x 12, x 13, x 14, x 15], KK (rdO s (q + 1)) zC⟩) →
     ∃ m, m < s.length - q ∧ ∃ n q, f ≤ q ∧ q ≤ s.length ∧ m = s.length - q ∧ n ≤ 90071992547409919 ∧ digitsS s f (s.length + 1) 0 f = digitsS s f (s.length + 1 - (q - f)) n q ∧ ∃ x : Nat → AV, st = ⟨[.ptr r 0, x 1, x 2, x 3, x 4, x 5, x 6, x 7, .ptr H.length 0, intD p, intD f, intD n, x 12, x 13, x 14, x 15], KK (rdO s q) zC⟩ := fun hn' hst =>
    ⟨s.length - (q + 1), by omega, _, q + 1, by omega, by omega, rfl, by rw [hn']; split <;> omega, by rw [hdg, hstep, hn'], hst⟩
   by_cases z2 : q = f + 1
   ·have z3 : nx s f ≠ 48 := fun h => z1 ⟨z2, h⟩
    have c1 : decide (q = f + 1) = true := decide_eq_true z2
    have c2 : (((nx s f).toNat : Int) == 48) = false := u8_f z3 rfl
    by_cases z4 : n ≤ 9007199254740991
    ·have c3 : decide ((n : Int) ≤ 9007199254740991) = true := by simp; omega
     have w3 : IntKind.i64.wrap (10 * (n : Int)) = ((10 * n : Nat) : Int) := by rw [w64 (by omega) (by omega)]; omega
     have w4 : IntKind.i64.wrap (((10 * n : Nat) : Int) + (((nx s q).toNat - 48 : Nat) : Int)) = ((10 * n + ((nx s q).toNat - 48) : Nat) : Int) := by rw [w64 (by omega) (by omega)]; omega
     (repeat ((first | refine V_sq ?_ | refine V_bk ?_ | refine V_ret ?_ | refine V_exit ?_ | refine V_skip ?_ | (apply V_rg; focus (intro _; simp only [zz,simprocAttr,gq,wf,p_eq,c1,c2,c3,hfa,byteD']; (first | done | with_reducible exact rfl))) | (refine V_cT ?_ ?_; focus (simp only [zp,simprocAttr]; done)) | (refine V_cF ?_ ?_; focus (simp only [zp,simprocAttr]; done))) <;> (try simp only [zp,simprocAttr])))
     (apply V_drw; focus (refine Evl.call (X := X0) (next_ev lim (KK (rdO s q) zC) r s q (kk2 _ _) hq2) (Evl.all fun k e1 => ?_); simp (maxSteps := 100000000) only [zz,zd,simprocAttr,w1,w2,w3,w4,e1]; (first | done | with_reducible exact rfl))) <;> (try simp only [zp,simprocAttr])
     refine v_r (j_ gq (j_ wq (j_ kk4 hl))) ?_
     exact next (by rw [if_pos z4]) (ex_st _ _ _ rfl)
    ·have c3 : decide ((n : Int) ≤ 9007199254740991) = false := by simp; omega
     (repeat ((first | refine V_sq ?_ | refine V_bk ?_ | refine V_ret ?_ | refine V_exit ?_ | refine V_skip ?_ | (apply V_rg; focus (intro _; simp only [zz,simprocAttr,gq,wf,p_eq,c1,c2,c3,hfa,byteD',wq,kk4,hl]; (first | done | with_reducible exact rfl))) | (refine V_cT ?_ ?_; focus (simp only [zp,simprocAttr]; done)) | (refine V_cF ?_ ?_; focus (simp only [zp,simprocAttr]; done))) <;> (try simp only [zp,simprocAttr])))
     exact next (by rw [if_neg z4]) (ex_st _ _ _ rfl)
   ·have c1 : decide (q = f + 1) = false := decide_eq_false z2
    by_cases z4 : n ≤ 9007199254740991
    ·have c3 : decide ((n : Int) ≤ 9007199254740991) = true := by simp; omega
     have w3 : IntKind.i64.wrap (10 * (n : Int)) = ((10 * n : Nat) : Int) := by rw [w64 (by omega) (by omega)]; omega
     have w4 : IntKind.i64.wrap (((10 * n : Nat) : Int) + (((nx s q).toNat - 48 : Nat) : Int)) = ((10 * n + ((nx s q).toNat - 48) : Nat) : Int) := by rw [w64 (by omega) (by omega)]; omega
     (repeat ((first | refine V_sq ?_ | refine V_bk ?_ | refine V_ret ?_ | refine V_exit ?_ | refine V_skip ?_ | (apply V_rg; focus (intro _; simp only [zz,simprocAttr,gq,wf,p_eq,c1,c3]; (first | done | with_reducible exact rfl))) | (refine V_cT ?_ ?_; focus (simp only [zp,simprocAttr]; done)) | (refine V_cF ?_ ?_; focus (simp only [zp,simprocAttr]; done))) <;> (try simp only [zp,simprocAttr])))
     (apply V_drw; focus (refine Evl.call (X := X0) (next_ev lim (KK (rdO s q) zC) r s q (kk2 _ _) hq2) (Evl.all fun k e1 => ?_); simp (maxSteps := 100000000) only [zz,zd,simprocAttr,w1,w2,w3,w4,e1]; (first | done | with_reducible exact rfl))) <;> (try simp only [zp,simprocAttr])
     refine v_r (j_ gq (j_ wq (j_ kk4 hl))) ?_
     exact next (by rw [if_pos z4]) (ex_st _ _ _ rfl)
    ·have c3 : decide ((n : Int) ≤ 9007199254740991) = false := by simp; omega
     (repeat ((first | refine V_sq ?_ | refine V_bk ?_ | refine V_ret ?_ | refine V_exit ?_ | refine V_skip ?_ | (apply V_rg; focus (intro _; simp only [zz,simprocAttr,gq,wf,p_eq,c1,c3,wq,kk4,hl]; (first | done | with_reducible exact rfl))) | (refine V_cT ?_ ?_; focus (simp only [zp,simprocAttr]; done)) | (refine V_cF ?_ ?_; focus (simp only [zp,simprocAttr]; done))) <;> (try simp only [zp,simprocAttr])))
     exact next (by rw [if_neg z4]) (ex_st _ _ _ rfl)
  | false =>
   have hend : digitsS s f (s.length + 1 - (q - f)) n q = .ok (n, q) := by
    rw [show s.length + 1 - (q - f) = (s.length - (q - f)) + 1 by omega]
    unfold digitsS
    rw [hd2]; rfl
   rw [hdg, hend]
   simp only
   have gq := kk2 (rdO s q) zC
   refine v_r trivial ?_
   (apply V_drw; focus (refine Evl.call (X := X0) (next_ev lim (KK (rdO s q) zC) r s q (kk2 _ _) hq2) (Evl.call (X := X0) (digit_ev lim (KK (rdO s q) zC) (nx s q)) (Evl.all fun k e2 e1 => ?_)); simp (maxSteps := 100000000) only [zz,zd,simprocAttr,hd2,e2,e1]; (first | done | with_reducible exact rfl))) <;> (try simp only [zp,simprocAttr])
   refine v_r trivial ?_
   (apply V_drw; focus (refine Evl.call (X := X0) (next_ev lim (KK (rdO s q) zC) r s q (kk2 _ _) hq2) (Evl.all fun k e1 => ?_); simp (maxSteps := 100000000) only [zz,zd,simprocAttr,e1]; (first | done | with_reducible exact rfl))) <;> (try simp only [zp,simprocAttr])
   by_cases b1 : 9007199254740991 < n
   ·have c1 : decide ((n : Int) > 9007199254740991) = true := by simp; omega
    refine v_r c1 ?_
    refine V_region ?_; refine VO_call rfl ?_; simp only [zz,simprocAttr]
    exact EvP.fv (stop_ev _ _ r 15 p) ⟨_, by rw [if_pos (.inl b1)], rfl⟩
   have c1 : decide ((n : Int) > 9007199254740991) = false := by simp; omega
   by_cases b2 : nx s q = 46
   ·have c2 : (((nx s q).toNat : Int) == 46) = true := u8_t b2 rfl
    refine v_r (j_ c1 c2) ?_
    refine V_region ?_; refine VO_call rfl ?_; simp only [zz,simprocAttr]
    exact EvP.fv (stop_ev _ _ r 15 p) ⟨_, by rw [if_pos (.inr (.inl b2))], rfl⟩
   have c2 : (((nx s q).toNat : Int) == 46) = false := u8_f b2 rfl
   by_cases b3 : nx s q = 101
   ·have c3 : (((nx s q).toNat : Int) == 101) = true := u8_t b3 rfl
    refine v_r (j_ c1 (j_ c2 c3)) ?_
    refine V_region ?_; refine VO_call rfl ?_; simp only [zz,simprocAttr]
    exact EvP.fv (stop_ev _ _ r 15 p) ⟨_, by rw [if_pos (.inr (.inr (.inl b3)))], rfl⟩
   have c3 : (((nx s q).toNat : Int) == 101) = false := u8_f b3 rfl
   by_cases b4 : nx s q = 69
   ·have c4 : (((nx s q).toNat : Int) == 69) = true := u8_t b4 rfl
    refine v_r (j_ c1 (j_ c2 (j_ c3 c4))) ?_
    refine V_region ?_; refine VO_call rfl ?_; simp only [zz,simprocAttr]
    exact EvP.fv (stop_ev _ _ r 15 p) ⟨_, by rw [if_pos (.inr (.inr (.inr b4)))], rfl⟩
   have c4 : (((nx s q).toNat : Int) == 69) = false := u8_f b4 rfl
   rw [if_neg (by rintro (h | h | h | h); exact b1 h; exact b2 h; exact b3 h; exact b4 h)]
   by_cases b5 : p < f
   ·have c5 : decide ((f : Int) > (p : Int)) = true := by simp; omega
    have wn : IntKind.i64.wrap (0 - (n : Int)) = -(n : Int) := by rw [w64 (by omega) (by omega)]; omega
    refine v_r (j_ c1 (j_ c2 (j_ c3 (j_ c4 (j_ c5 (j_ wn (j_ kk3 (j_ kk5 hll)))))))) ?_
    refine ans_drop (vs := [.d (flatD 2 (-(n : Int)))]) ?_ (kk0 _ _) (List.getElem?_eq_some_iff.1 gr).1 rfl rfl ⟨_, q, rfl, by rw [if_pos b5, jd]; rfl, rfl⟩
    simp only [resV,zz,simprocAttr,kk3]
   ·have c5 : decide ((f : Int) > (p : Int)) = false := by simp; omega
    refine v_r (j_ c1 (j_ c2 (j_ c3 (j_ c4 (j_ c5 (j_ kk3 (j_ kk5 hll))))))) ?_
    refine ans_drop (vs := [.d (flatD 2 (n : Int))]) ?_ (kk0 _ _) (List.getElem?_eq_some_iff.1 gr).1 rfl rfl ⟨_, q, rfl, by rw [if_neg b5, jd]; rfl, rfl⟩
    simp only [resV,zz,simprocAttr,kk3]
end Go.Proofs.YtmhmjlfajlpabaaDoor
set_option maxRecDepth 100000
namespace Go.Proofs.YtmhmjlfajlpabaaDoor
open Go Go.Abs
theorem more_eq (s : Tx) (first : Bool) (e : UInt8) (p : Nat) : moreS s first e p = if s[blanksS s p]? = some e then .ok (false, blanksS s p + 1)
 else if first then .ok (true, blanksS s p)
 else match wantS s 44 (blanksS s p) with
  | .error e => .error e
  | .ok q => .ok (true, blanksS s q) := rfl
theorem more_ev (lim : Nat) (H : AHeap) (r : Nat) (s : Tx) (p : Nat) (first : Bool) (e : UInt8) (he : e ≠ 0) (gr : H[r]? = some (rdO s p)) (hl : lim ≤ r) (hs : s.length ≤ 16384) (hp : p ≤ s.length) :
  Fv X0 XP 39 lim [.ptr r 0, boolD first, .d (.int .u8 e.toNat)] H (fun v H' => ∃ b q, moreS s first e p = .ok (b, q) ∧ v = boolD b ∧ H' = H.set r (rdO s q)) (fun z => ∃ x, moreS s first e p = .error x ∧ z = stopP x.1 x.2) := by
 rw [more_eq]
 have hb := blanks_le s p hp
 have ev := blanks_ev (pr := prims0) lim H r s p gr hl hp hs
 have gb := rd_set gr (blanksS s p)
 generalize blanksS s p = q at hb ev gb ⊢
 refine Fv_of (pn rfl) rfl (by first | exact rfl | exact pnP (pr := prims0) rfl) rfl (show code 39 = some c39 from rfl) rfl ?_; simp only [List.length_cons,List.length_nil,List.cons_append,List.nil_append,simprocAttr]
 refine v_r trivial ?_
 (apply V_drw; focus (refine Evl.call (X := X0) (ev) (Evl.all fun k e1 => ?_); simp (maxSteps := 100000000) only [zz,zd,simprocAttr,e1]; (first | done | with_reducible exact rfl))) <;> (try simp only [zp,simprocAttr])
 by_cases h : s[q]? = some e
 ·have hq := (List.getElem?_eq_some_iff.1 h).1
  have hn : nx s q = e := by have := get_at hq; rw [h] at this; exact (Option.some.inj this).symm
  have c1 : (((nx s q).toNat : Int) == (e.toNat : Int)) = true := by rw [hn]; simp
  have c2 : decide ((q : Int) < (s.length : Int)) = true := by simp; omega
  have wq : IntKind.i64.wrap ((q : Int) + 1) = ((q + 1 : Nat) : Int) := wpos (by omega)
  rw [if_pos h]
  refine v_r trivial ?_
  (apply V_drw; focus (refine Evl.call (X := X0) (next_ev lim (H.set r (rdO s q)) r s q gb hb.2) (Evl.all fun k e1 => ?_); simp (maxSteps := 100000000) only [zz,zd,simprocAttr,c1,c2,gb,e1]; (first | done | with_reducible exact rfl))) <;> (try simp only [zp,simprocAttr])
  (repeat ((first | refine V_sq ?_ | refine V_bk ?_ | refine V_ret ?_ | refine V_exit ?_ | refine V_skip ?_ | (apply V_rg; focus (intro _; simp only [zz,simprocAttr,gb,wq,hl,rd_set2]; (first | done | with_reducible exact rfl))) | (refine V_cT ?_ ?_; focus (simp only [zp,simprocAttr]; done)) | (refine V_cF ?_ ?_; focus (simp only [zp,simprocAttr]; done))) <;> (try simp only [zp,simprocAttr])))
  exact ans_keep rfl ⟨false, q + 1, rfl, rfl, rfl⟩
 ·have hn : nx s q ≠ e := fun hn => by
   have hq := nx_lt (s := s) (p := q) (by rw [hn]; exact he)
   exact h (by rw [get_at hq, hn])
  have c1 : (((nx s q).toNat : Int) == (e.toNat : Int)) = false := u8_f hn rfl
  rw [if_neg h]
  cases first with
  | true =>
   rw [if_pos rfl]
   refine v_r trivial ?_
   (apply V_drw; focus (refine Evl.call (X := X0) (next_ev lim (H.set r (rdO s q)) r s q gb hb.2) (Evl.all fun k e1 => ?_); simp (maxSteps := 100000000) only [zz,zd,simprocAttr,c1,e1]; (first | done | with_reducible exact rfl))) <;> (try simp only [zp,simprocAttr])
   refine v_r trivial ?_
   exact ans_keep rfl ⟨true, q, rfl, rfl, rfl⟩
  | false =>
   rw [if_neg (by simp)]
   refine v_r trivial ?_
   (apply V_drw; focus (refine Evl.call (X := X0) (next_ev lim (H.set r (rdO s q)) r s q gb hb.2) (Evl.all fun k e1 => ?_); simp (maxSteps := 100000000) only [zz,zd,simprocAttr,c1,e1]; (first | done | with_reducible exact rfl))) <;> (try simp only [zp,simprocAttr])
   refine v_r trivial ?_
   rcases want_cases s 44 q with ⟨h1, h2⟩ | ⟨h1, h2⟩
   ·rw [h2]
    have hq1 := (List.getElem?_eq_some_iff.1 h1).1
    have ew : Ev X0 57 lim [.ptr r 0, .d (.int .u8 44)] (H.set r (rdO s q)) (.tuple []) _ := want_ok lim (H.set r (rdO s q)) r s q 44 gb hl hs h1
    have eb := blanks_ev (pr := prims0) lim (H.set r (rdO s (q + 1))) r s (q + 1) (rd_set gr _) hl (by omega) hs
    rw [rd_set2] at ew eb
    (apply V_drw; focus (refine Evl.call (X := X0) (ew) (Evl.all fun k e1 => ?_); simp (maxSteps := 100000000) only [zz,zd,simprocAttr,e1]; (first | done | with_reducible exact rfl))) <;> (try simp only [zp,simprocAttr])
    refine v_r trivial ?_
    (apply V_drw; focus (refine Evl.call (X := X0) (eb) (Evl.all fun k e1 => ?_); simp (maxSteps := 100000000) only [zz,zd,simprocAttr,e1]; (first | done | with_reducible exact rfl))) <;> (try simp only [zp,simprocAttr])
    refine v_r trivial ?_
    exact ans_keep rfl ⟨true, _, rfl, rfl, rfl⟩
   ·rw [h2]
    refine V_region ?_; refine VO_call rfl ?_; simp only [zz,simprocAttr]
    exact EvP.fv (want_no lim _ r s q 44 gb hb.2 h1) ⟨_, rfl, rfl⟩
end Go.Proofs.YtmhmjlfajlpabaaDoor
set_option maxRecDepth 100000
namespace Go.Proofs.YtmhmjlfajlpabaaDoor
open Go Go.Abs
theorem text_ok {lim : Nat} {H : AHeap} {r : Nat} {s : Tx} {p : Nat} (gr : H[r]? = some (rdO s p)) (hl : lim ≤ r) (hs : s.length ≤ 16384) (hp : p ≤ s.length) {t : Tx} {q : Nat} (h : textS s p = .ok (t, q)) :
  Ev X0 41 lim [.ptr r 0] H (.d (.str t)) (H.set r (rdO s q)) := by
 refine Ev_prim (F := textF) rfl ?_
 have h0 : lim ≤ r ∧ (0 : Int) ≤ (p : Int) ∧ (p : Int) ≤ (s.length : Int) ∧ s.length ≤ 16384 := ⟨hl, by omega, by omega, hs⟩
 simp only [textF, gr, if_pos h0, Int.toNat_natCast, h]
theorem text_no {lim : Nat} {H : AHeap} {r : Nat} {s : Tx} {p : Nat} (gr : H[r]? = some (rdO s p)) (hl : lim ≤ r) (hs : s.length ≤ 16384) (hp : p ≤ s.length) {e : Nat × Nat} (h : textS s p = .error e) :
  EvP XP 41 lim [.ptr r 0] H (stopP e.1 e.2) := by
 refine EvP_prim (F := textPF) rfl rfl ?_
 have h0 : lim ≤ r ∧ (0 : Int) ≤ (p : Int) ∧ (p : Int) ≤ (s.length : Int) ∧ s.length ≤ 16384 := ⟨hl, by omega, by omega, hs⟩
 simp only [textPF, gr, if_pos h0, Int.toNat_natCast, h]
def ValueOK (f : Nat) : Prop := ∀ (lim : Nat) (H : AHeap) (r : Nat) (s : Tx) (p deep : Nat), H[r]? = some (rdO s p) → lim ≤ r → s.length ≤ 16384 → p ≤ s.length → deep ≤ 13 → 2 * (s.length - p) + 1 ≤ f →
 Fv X0 XP 25 lim [.ptr r 0, intD deep] H (fun v H' => ∃ j q, valueS s f deep p = .ok (j, q) ∧ v = .d j.d ∧ H' = H.set r (rdO s q)) (fun z => ∃ e, valueS s f deep p = .error e ∧ z = stopP e.1 e.2)
theorem begins_eq (c : UInt8) : begins c = ((((c.toNat : Int) != 0)) && (isDigit c || ([91, 123, 34, 110, 116, 102, 45] : Tx).contains c)) := by
 unfold begins
 simp only [List.contains_cons, List.contains_nil, Bool.or_false, Bool.or_assoc]
 by_cases h : c = 0
 ·subst h; rfl
 ·have : (((c.toNat : Int) != 0)) = true := by
   have := u8_f (c := c) (k := 0) (n := 0) h rfl
   simp [bne, this]
  rw [this, Bool.true_and]
theorem deep_eq (d : Nat) : decide ((d : Int) > 12) = decide (12 < d) := by
 rw [Bool.eq_iff_iff]; simp; omega
abbrev zJ : List AV := [intD 0, intD 0, .d (.str []), .fslice [], .fslice []]
theorem duo {H : AHeap} {r : Nat} {o : AObj} (gr : H[r]? = some o) : ∃ KK : AObj → AObj → AObj → AHeap, (∀ x y z, KK x y z = H.set r x ++ [y, z]) ∧ (∀ x y z, (KK x y z)[r]? = some x) ∧ (∀ x y z, (KK x y z)[H.length]? = some y) ∧ (∀ x y z, (KK x y z)[H.length + 1]? = some z) ∧
  (∀ x y z x', (KK x y z).set r x' = KK x' y z) ∧ (∀ x y z y', (KK x y z).set H.length y' = KK x y' z) ∧ (∀ x y z z', (KK x y z).set (H.length + 1) z' = KK x y z') := by
 obtain ⟨hr, e⟩ := List.getElem?_eq_some_iff.1 gr
 refine ⟨fun x y z => H.set r x ++ [y, z], fun _ _ _ => rfl, fun x y z => ?_, fun x y z => ?_, fun x y z => ?_, fun x y z x' => ?_, fun x y z y' => ?_, fun x y z z' => ?_⟩
 ·simp only; rw [List.getElem?_append_left (by simpa using hr)]; simp [hr]
 ·simp only; rw [List.getElem?_append_right (by simp)]; simp
 ·simp only; rw [List.getElem?_append_right (by simp)]; simp
 ·simp only; rw [List.set_append_left _ _ (by simpa using hr), List.set_set]
 ·simp only; rw [List.set_append_right _ _ (by simp)]; simp
 ·simp only; rw [List.set_append_right _ _ (by simp)]; simp
theorem trio {H : AHeap} {r : Nat} {o : AObj} (gr : H[r]? = some o) : ∃ KK : AObj → AObj → AObj → AObj → AHeap, (∀ x y z m, KK x y z m = H.set r x ++ [y, z, m]) ∧ (∀ x y z m, (KK x y z m)[r]? = some x) ∧ (∀ x y z m, (KK x y z m)[H.length]? = some y) ∧ (∀ x y z m, (KK x y z m)[H.length + 1]? = some z) ∧ (∀ x y z m, (KK x y z m)[H.length + 2]? = some m) ∧
  (∀ x y z m x', (KK x y z m).set r x' = KK x' y z m) ∧ (∀ x y z m y', (KK x y z m).set H.length y' = KK x y' z m) ∧ (∀ x y z m z', (KK x y z m).set (H.length + 1) z' = KK x y z' m) ∧ (∀ x y z m m', (KK x y z m).set (H.length + 2) m' = KK x y z m') := by
 obtain ⟨hr, e⟩ := List.getElem?_eq_some_iff.1 gr
 refine ⟨fun x y z m => H.set r x ++ [y, z, m], fun _ _ _ _ => rfl, fun x y z m => ?_, fun x y z m => ?_, fun x y z m => ?_, fun x y z m => ?_, fun x y z m x' => ?_, fun x y z m y' => ?_, fun x y z m z' => ?_, fun x y z m z' => ?_⟩
 ·simp only; rw [List.getElem?_append_left (by simpa using hr)]; simp [hr]
 ·simp only; rw [List.getElem?_append_right (by simp)]; simp
 ·simp only; rw [List.getElem?_append_right (by simp)]; simp
 ·simp only; rw [List.getElem?_append_right (by simp)]; simp
 ·simp only; rw [List.set_append_left _ _ (by simpa using hr), List.set_set]
 ·simp only; rw [List.set_append_right _ _ (by simp)]; simp
 ·simp only; rw [List.set_append_right _ _ (by simp)]; simp
 ·simp only; rw [List.set_append_right _ _ (by simp)]; simp
theorem list_eq (s : Tx) (f deep : Nat) (first : Bool) (acc : List J) (p : Nat) : listS s (f + 1) deep first acc p = match moreS s first 93 p with
  | .error e => .error e
  | .ok (false, p) => .ok (acc, p)
  | .ok (true, p) => match valueS s f (deep + 1) p with
   | .error e => .error e
   | .ok (j, q) => listS s f deep false (acc ++ [j]) q := by
 conv => lhs; unfold listS
 rfl
theorem headJ (l : List J) : headSz 5 (l.map J.d) = true := by
 cases l with
 | nil => rfl
 | cons j l => rw [List.map_cons, jd]; rfl
theorem headS (l : List Tx) : headSz 1 (l.map D.str) = true := by
 cases l with
 | nil => rfl
 | cons j l => rfl
theorem tk25 : Tab.tak 25 = false := rfl
abbrev listO (acc : List J) : AObj := .cells [intD 4, intD 0, .d (.str []), .fslice [], .fslice (acc.map J.d)]
abbrev listT (acc : List J) : AObj := .cells [intD 4, intD 0, .d (.str []), .fslice [], .d (.slice (acc.map J.d))]
theorem fields_eq (s : Tx) (f deep : Nat) (first : Bool) (ks : List Tx) (l : List J) (p : Nat) : fieldsS s (f + 1) deep first ks l p = match moreS s first 125 p with
  | .error e => .error e
  | .ok (false, p) => .ok (ks, l, p)
  | .ok (true, p) => match textS s p with
   | .error e => .error e
   | .ok (k, q) => if ks.contains k then .error (14, p) else match wantS s 58 (blanksS s q) with
    | .error e => .error e
    | .ok r => match valueS s f (deep + 1) (blanksS s r) with
     | .error e => .error e
     | .ok (j, z) => fieldsS s f deep false (ks ++ [k]) (l ++ [j]) z := by
 conv => lhs; unfold fieldsS
 rfl
abbrev keysE (ks : List Tx) : List (D × AV) := ks.map fun k => (D.str k, boolD true)
abbrev fldO (ks : List Tx) (acc : List J) : AObj := .cells [intD 5, intD 0, .d (.str []), .fslice (ks.map D.str), .fslice (acc.map J.d)]
abbrev fldT (ks : List Tx) (acc : List J) : AObj := .cells [intD 5, intD 0, .d (.str []), .fslice (ks.map D.str), .d (.slice (acc.map J.d))]
abbrev keysO (ks : List Tx) : AObj := .map .str (keysE ks)
theorem isKey_str (k : Tx) : isKey .str (.str k) = true := rfl
theorem str_beq (a b : Tx) : D.beq (.str a) (.str b) = (a == b) := rfl
theorem find_keys (k : Tx) : ∀ ks : List Tx, findE (.str k) (keysE ks) = if ks.contains k then some (boolD true) else none
 | [] => rfl
 | a :: ks => by
  simp only [keysE, List.map_cons, findE, str_beq, List.contains_cons]
  by_cases h : (k == a) = true
  ·simp [h]
  ·have := find_keys k ks
   simp only [keysE] at this
   simp [h, this]
theorem set_keys (k : Tx) : ∀ ks : List Tx, ks.contains k = false → setE (.str k) (boolD true) (keysE ks) = keysE (ks ++ [k])
 | [], _ => rfl
 | a :: ks, h => by
  simp only [List.contains_cons, Bool.or_eq_false_iff] at h
  simp only [keysE, List.map_cons, setE, str_beq, List.cons_append, h.1]
  have := set_keys k ks h.2
  simp only [keysE] at this
  simp [this]
def FieldsOK (f : Nat) : Prop := ∀ (lim : Nat) (H : AHeap) (r : Nat) (s : Tx) (p deep : Nat), H[r]? = some (rdO s p) → lim ≤ r → s.length ≤ 16384 → p ≤ s.length → deep ≤ 12 → 2 * (s.length - p) + 2 ≤ f →
 Fv X0 XP 40 lim [.ptr r 0, intD deep] H (fun v H' => ∃ y, fieldsS s f deep true [] [] p = .ok y ∧ v = .d (J.mk 5 0 [] y.1 y.2.1).d ∧ H' = H.set r (rdO s y.2.2)) (fun z => ∃ e, fieldsS s f deep true [] [] p = .error e ∧ z = stopP e.1 e.2)
theorem fields_all (f : Nat) (ih : ∀ g, g < f → ValueOK g) : FieldsOK f := by
 intro lim H r s p deep gr hl hs hp hd hf
 refine Fv_ofC (pn rfl) rfl (by first | exact rfl | exact pnP (pr := prims0) rfl) rfl (show code 40 = some c40 from rfl) rfl ?_; simp only [List.length_cons,List.length_nil,List.cons_append,List.nil_append,simprocAttr]
 obtain ⟨KK, kk0, kk1, kk2, kk3, kk4, kk5, hrl⟩ := one_more gr zC
 obtain ⟨K3, d0, d1, d2, d3, d4, d5, d6, d7, d8⟩ := trio gr
 have hll := Nat.le_trans hl hrl
 have hr := (List.getElem?_eq_some_iff.1 gr).1
 have hll2 : lim ≤ H.length + 1 := by omega
 have hll3 : lim ≤ H.length + 2 := by omega
 have a1 : (H ++ [zC]).length = H.length + 1 := by simp
 have a2 : ∀ (B C : AObj), (H ++ [zC] ++ [B]).set (H.length + 1) C = H ++ [zC, C] := fun B C => by
  rw [List.append_assoc, List.set_append_right _ _ (by simp)]; simp
 have a3 : ∀ (B : AObj), (H ++ [zC] ++ [B])[H.length + 1]? = some B := fun B => by
  rw [List.append_assoc, List.getElem?_append_right (by simp)]; simp
 have a4 : ∀ (B : AObj), (H ++ [zC, B]).length = H.length + 2 := fun B => by simp
 have a5 : ∀ (B C : AObj), H ++ [zC, B] ++ [C] = K3 (rdO s p) zC B C := fun B C => by
  rw [d0, rd_same gr]; simp
 (iterate 6 refine v_s (j_ a1 (j_ a2 (j_ a3 (j_ a4 (j_ a5 hll2))))) ?_)
 obtain ⟨L, hL0⟩ : ∃ L, L = fieldsS s f deep true [] [] p := ⟨_, rfl⟩
 rw [← hL0]
 (iterate 4 refine v_s trivial ?_)
 refine V_lp (fun m st => ∃ first ks acc p' f', p' ≤ s.length ∧ ks.length ≤ p' ∧ acc.length ≤ p' ∧ m = s.length - p' ∧ f' ≤ f ∧ 2 * (s.length - p') + 2 ≤ f' ∧ L = fieldsS s f' deep first ks acc p' ∧ ∃ x : Nat → AV, st = ⟨[.ptr r 0, intD deep, x 2, x 3, .ptr H.length 0, .ptr (H.length + 1) 0, .mapr (H.length + 2), boolD first, x 8, x 9, x 10, x 11, x 12], K3 (rdO s p') zC (fldO ks acc) (keysO ks)⟩) ?_ _ _ ⟨true, [], [], p, f, hp, Nat.zero_le _, Nat.zero_le _, rfl, Nat.le_refl _, hf, hL0, ex_st _ _ _ rfl⟩
 rintro m _ ⟨first, ks, acc, p', f', hp', hks, hac, rfl, hf1, hf2, hls, x, rfl⟩
 obtain ⟨g, rfl⟩ : ∃ g, f' = g + 1 := ⟨f' - 1, by omega⟩
 rw [fields_eq] at hls
 have hm := more_ev lim _ r s p' first 125 (by decide) (d1 (rdO s p') zC (fldO ks acc) (keysO ks)) hl hs hp'
 cases hmo : moreS s first 125 p' with
 | error e =>
  rw [hmo] at hls
  refine v_r trivial ?_
  refine V_region ?_; refine VO_call rfl ?_; simp only [zz,simprocAttr]
  exact EvP.fv (hm.noJ hmo) ⟨_, by rw [hls], rfl⟩
 | ok y =>
  obtain ⟨b, q⟩ := y
  rw [hmo] at hls
  have hmb := more_lt hmo
  have hq := hmb.2.1 hp'
  have em : Ev X0 39 lim [.ptr r 0, boolD first, .d (.int .u8 125)] (K3 (rdO s p') zC (fldO ks acc) (keysO ks)) (boolD b) _ := hm.okJ hmo
  rw [d5] at em
  cases b with
  | false =>
   refine v_r trivial ?_
   (apply V_drw; focus (refine Evl.call (X := X0) (em) (Evl.all fun k e1 => ?_); simp (maxSteps := 100000000) only [zz,zd,simprocAttr,e1]; (first | done | with_reducible exact rfl))) <;> (try simp only [zp,simprocAttr])
   refine v_r (j_ d3 (j_ d2 (j_ d6 hll))) ?_
   refine ans_drop (vs := [.d (J.mk 5 0 [] ks acc).d]) ?_ (d0 _ _ _ _) hr rfl rfl ⟨(ks, acc, q), by rw [hls], rfl, rfl⟩
   rw [jd]
   simp only [resV,zz,simprocAttr,d2]; rfl
  | true =>
   simp only at hls
   have g1 := d1 (rdO s q) zC (fldO ks acc) (keysO ks)
   refine v_r trivial ?_
   (apply V_drw; focus (refine Evl.call (X := X0) (em) (Evl.all fun k e1 => ?_); simp (maxSteps := 100000000) only [zz,zd,simprocAttr,e1]; (first | done | with_reducible exact rfl))) <;> (try simp only [zp,simprocAttr])
   refine v_r g1 ?_
   cases ht : textS s q with
   | error e =>
    rw [ht] at hls
    refine V_region ?_; refine VO_call rfl ?_; simp only [zz,simprocAttr]
    exact EvP.fv (text_no g1 hl hs hq ht) ⟨_, hls, rfl⟩
   | ok y =>
   obtain ⟨k, q2⟩ := y
   rw [ht] at hls
   have htl := text_lt ht
   have et := text_ok g1 hl hs hq ht
   rw [d5] at et
   simp only at hls
   have hfk := find_keys k ks
   have g2 := d4 (rdO s q2) zC (fldO ks acc) (keysO ks)
   (apply V_drw; focus (refine Evl.call (X := X0) (et) (Evl.all fun k e1 => ?_); simp (maxSteps := 100000000) only [zz,zd,simprocAttr,e1]; (first | done | with_reducible exact rfl))) <;> (try simp only [zp,simprocAttr])
   cases hkc : ks.contains k with
   | true =>
    rw [hkc] at hfk hls
    simp only [if_true] at hfk hls
    refine v_r (j_ g2 (j_ hfk @isKey_str)) ?_
    refine V_region ?_; refine VO_call rfl ?_; simp only [zz,simprocAttr]
    exact EvP.fv (stop_ev _ _ r 14 q) ⟨_, hls, rfl⟩
   | false =>
   rw [hkc] at hfk hls
   simp only [Bool.false_eq_true, if_false] at hfk hls
   have hsk := set_keys k ks hkc
   have g3 := d1 (rdO s q2) zC (fldO ks acc) (keysO (ks ++ [k]))
   refine v_r (j_ g2 (j_ hfk (j_ @isKey_str (j_ hsk (j_ d8 hll3))))) ?_
   have hb1 := blanks_le' s q2
   have eb1 := blanks_ev (pr := prims0) lim _ r s q2 g3 hl htl.2 hs
   rw [d5] at eb1
   (apply V_drw; focus (refine Evl.call (X := X0) (eb1) (Evl.all fun k e1 => ?_); simp (maxSteps := 100000000) only [zz,zd,simprocAttr,e1]; (first | done | with_reducible exact rfl))) <;> (try simp only [zp,simprocAttr])
   have g4 := d1 (rdO s (blanksS s q2)) zC (fldO ks acc) (keysO (ks ++ [k]))
   rcases want_cases s 58 (blanksS s q2) with ⟨h1, h2⟩ | ⟨h1, h2⟩
   rotate_left
   ·rw [h2] at hls
    refine v_r trivial ?_
    refine V_region ?_; refine VO_call rfl ?_; simp only [zz,simprocAttr]
    exact EvP.fv (want_no lim _ r s _ 58 g4 (hb1.2 htl.2) h1) ⟨_, hls, rfl⟩
   rw [h2] at hls
   simp only at hls
   have h1l := (List.getElem?_eq_some_iff.1 h1).1
   have hb2 := blanks_le' s (blanksS s q2 + 1)
   have ew : Ev X0 57 lim [.ptr r 0, .d (.int .u8 58)] (K3 (rdO s (blanksS s q2)) zC (fldO ks acc) (keysO (ks ++ [k]))) (.tuple []) _ := want_ok lim _ r s _ 58 g4 hl hs h1
   rw [d5] at ew
   have g5 := d1 (rdO s (blanksS s q2 + 1)) zC (fldO ks acc) (keysO (ks ++ [k]))
   have eb2 := blanks_ev (pr := prims0) lim _ r s _ g5 hl (by omega) hs
   rw [d5] at eb2
   refine v_r trivial ?_
   (apply V_drw; focus (refine Evl.call (X := X0) (ew) (Evl.all fun k e1 => ?_); simp (maxSteps := 100000000) only [zz,zd,simprocAttr,e1]; (first | done | with_reducible exact rfl))) <;> (try simp only [zp,simprocAttr])
   refine v_r trivial ?_
   (apply V_drw; focus (refine Evl.call (X := X0) (eb2) (Evl.all fun k e1 => ?_); simp (maxSteps := 100000000) only [zz,zd,simprocAttr,e1]; (first | done | with_reducible exact rfl))) <;> (try simp only [zp,simprocAttr])
   generalize hz : blanksS s (blanksS s q2 + 1) = z at hls hb2 eb2 ⊢
   have hs1 := headS ks
   have hs2 : ((ks.map D.str).length + 1) * 17 ≤ 70368744177664 := by rw [List.length_map]; omega
   refine v_r (j_ d3 (j_ d7 (j_ hll2 (j_ hs1 hs2)))) ?_
   have hkk : ks.map D.str ++ [D.str k] = (ks ++ [k]).map D.str := by simp
   rw [hkk]
   have wd : IntKind.i64.wrap ((deep : Int) + 1) = ((deep + 1 : Nat) : Int) := wpos (by omega)
   have hv1 := ih g (by omega) lim _ r s z (deep + 1) (d1 (rdO s z) zC (fldO (ks ++ [k]) acc) (keysO (ks ++ [k]))) hl hs (hb2.2 (by omega)) (by omega) (by omega)
   have hv2 := ih g (by omega) lim _ r s z (deep + 1) (d1 (rdO s z) zC (fldT (ks ++ [k]) acc) (keysO (ks ++ [k]))) hl hs (hb2.2 (by omega)) (by omega) (by omega)
   cases hvo : valueS s g (deep + 1) z with
   | error e =>
    rw [hvo] at hls
    (apply V_pan; focus (refine Evl.panN (X := X0) (hv1.noJ hvo) (Evl.panN (X := X0) (hv2.noJ hvo) (Evl.all fun k e2 e1 => ?_)); simp (maxSteps := 100000000) only [zz,zd,simprocAttr,wd,d3,d7,hll2,tk25,e2,e1]; (first | done | with_reducible exact rfl)))
    exact ⟨e, hls, rfl⟩
   | ok y =>
    obtain ⟨j, z2⟩ := y
    rw [hvo] at hls
    have hvl := value_lt hvo
    have ev1 := hv1.okJ hvo
    have ev2 := hv2.okJ hvo
    rw [d5] at ev1 ev2
    have hj := jd j
    have hz1 := headJ acc
    have hz2 : ((acc.map J.d).length + 1) * 85 ≤ 70368744177664 := by rw [List.length_map]; omega
    (apply V_drw; focus (refine Evl.call (X := X0) (ev1) (Evl.call (X := X0) (ev2) (Evl.all fun k e2 e1 => ?_)); simp (maxSteps := 100000000) only [zz,zd,simprocAttr,hj,hz1,hz2,wd,d3,d7,hll2,d5,e2,e1]; (first | done | with_reducible exact rfl))) <;> (try simp only [zp,simprocAttr])
    refine v_r trivial ?_
    refine ⟨s.length - z2, by omega, false, ks ++ [k], acc ++ [j], z2, g, hvl.2, by simp; omega, by simp; omega, rfl, by omega, by omega, hls, ex_stH ?_ rfl⟩
    rw [← hj]; simp only [fldO, List.map_append, List.map_cons, List.map_nil]
theorem value_step (f : Nat) (ih : ∀ g, g < f + 1 → ValueOK g) : ValueOK (f + 1) := by
 intro lim H r s p deep gr hl hs hp hd hf
 refine Fv_ofC (pn rfl) rfl (by first | exact rfl | exact pnP (pr := prims0) rfl) rfl (show code 25 = some c25 from rfl) rfl ?_; simp only [List.length_cons,List.length_nil,List.cons_append,List.nil_append,simprocAttr]
 obtain ⟨KK, kk0, kk1, kk2, kk3, kk4, kk5, hrl⟩ := one_more gr zC
 have hll := Nat.le_trans hl hrl
 have hr := (List.getElem?_eq_some_iff.1 gr).1
 (iterate 2 refine v_s trivial ?_)
 rw [← kk1]
 refine V_sq ?_
 (apply V_drw; focus (refine Evl.call (X := X0) (next_ev lim (KK (rdO s p) zC) r s p (kk2 _ _) hp) (Evl.all fun k e1 => ?_); simp (maxSteps := 100000000) only [zz,zd,simprocAttr,e1]; (first | done | with_reducible exact rfl))) <;> (try simp only [zp,simprocAttr])
 generalize hc : nx s p = c
 refine V_sq ?_
 refine V_mid (fun st => ∃ x : Nat → AV, st = ⟨[.ptr r 0, intD deep, boolD (decide (12 < deep) && begins c), x 3, x 4, x 5, x 6, x 7, x 8, x 9, .ptr H.length 0, .d (.int .u8 c.toNat), x 12, x 13, x 14, x 15, x 16, x 17], KK (rdO s p) zC⟩) ?_ ?_
 ·rw [begins_eq, ← idx_ge, ← deep_eq]
  cases hz : decide ((deep : Int) > 12) with
  | false =>
   refine v_r (j_ hz @Bool.false_and) ?_
   exact ex_st _ _ _ rfl
  | true =>
   cases h0 : ((c.toNat : Int) != 0) with
   | false =>
    refine v_r (j_ hz (j_ h0 @Bool.false_and)) ?_
    exact ex_st _ _ _ rfl
   | true =>
    cases h1 : isDigit c with
    | true =>
     (apply V_drw; focus (refine Evl.call (X := X0) (digit_ev lim (KK (rdO s p) zC) c) (Evl.all fun k e1 => ?_); simp (maxSteps := 100000000) only [zz,zd,simprocAttr,hz,h0,h1,Bool.true_and,Bool.true_or,e1]; (first | done | with_reducible exact rfl))) <;> (try simp only [zp,simprocAttr])
     exact ex_st _ _ _ rfl
    | false =>
     (apply V_drw; focus (refine Evl.call (X := X0) (digit_ev lim (KK (rdO s p) zC) c) (Evl.call (X := X0) (idx_ev lim (KK (rdO s p) zC) [91, 123, 34, 110, 116, 102, 45] c) (Evl.all fun k e2 e1 => ?_)); simp (maxSteps := 100000000) only [zz,zd,simprocAttr,hz,h0,h1,Bool.true_and,Bool.false_or,e2,e1]; (first | done | with_reducible exact rfl))) <;> (try simp only [zp,simprocAttr])
     exact ex_st _ _ _ rfl
 rintro _ ⟨x, rfl⟩
 have k2 := kk2 (rdO s p) zC
 unfold valueS
 rw [hc]
 cases hb : (decide (12 < deep) && begins c) with
 | true =>
  rw [if_pos (by simpa using hb)]
  refine v_r trivial ?_
  refine V_region ?_; apply VO_take 3; (focus (intro _; simp only [zz,simprocAttr,k2]; (first | done | with_reducible exact rfl))); simp only [List.drop_succ_cons,List.drop_zero]; refine VO_call rfl ?_; simp only [zz,simprocAttr]
  exact EvP.fv (stop_ev _ _ r 12 p) ⟨_, rfl, rfl⟩
 | false =>
 rw [if_neg (by simpa using hb)]
 have k3 := kk3 (rdO s p) zC
 have wp : IntKind.i64.wrap ((p : Int) + 1) = ((p + 1 : Nat) : Int) := wpos (by omega)
 by_cases h91 : c = 91
 ·have hpl : p < s.length := nx_lt' (by rw [hc, h91]; decide)
  have c1 : ((c.toNat : Int) == 91) = true := u8_t h91 rfl
  have hd2 : deep ≤ 12 := by
   rw [h91] at hb
   simp only [show begins 91 = true from rfl, Bool.and_true, decide_eq_false_iff_not] at hb
   omega
  rw [if_pos h91]
  refine v_r (j_ c1 (j_ k2 (j_ wp (j_ hl (j_ kk5 (j_ kk3 kk4)))))) ?_
  obtain ⟨K2, d0, d1, d2, d3, d4, d5, d6⟩ := duo gr
  have hl2 : (H.set r (.cells [.d (.str s), intD ((p + 1 : Nat) : Int)]) ++ [zC]).length = H.length + 1 := by simp
  have hs2 : ∀ (A B C : AObj), (H.set r A ++ [zC] ++ [B]).set (H.length + 1) C = K2 A zC C := fun A B C => by
   rw [d0, List.append_assoc, List.set_append_right _ _ (by simp)]; simp
  have hg2 : ∀ (A B : AObj), (H.set r A ++ [zC] ++ [B])[H.length + 1]? = some B := fun A B => by
   rw [List.append_assoc, List.getElem?_append_right (by simp)]; simp
  have hll2 : lim ≤ H.length + 1 := by omega
  rw [kk0]
  (iterate 2 refine v_s (j_ hl2 (j_ hs2 (j_ hg2 hll2))) ?_)
  (iterate 3 refine v_s trivial ?_)
  obtain ⟨L, hL0⟩ : ∃ L, L = listS s f deep true [] (p + 1) := ⟨_, rfl⟩
  rw [← hL0]
  refine V_lp (fun m st => ∃ first acc p' f', p' ≤ s.length ∧ acc.length ≤ p' ∧ m = s.length - p' ∧ f' ≤ f ∧ 2 * (s.length - p') + 2 ≤ f' ∧ L = listS s f' deep first acc p' ∧ ∃ x : Nat → AV, st = ⟨[.ptr r 0, intD deep, x 2, x 3, x 4, x 5, x 6, x 7, x 8, x 9, .ptr H.length 0, x 11, x 12, .ptr (H.length + 1) 0, boolD first, x 15, x 16, x 17], K2 (rdO s p') zC (listO acc)⟩) ?_ _ _ ⟨true, [], p + 1, f, by omega, Nat.zero_le _, rfl, Nat.le_refl _, by omega, hL0, ex_st _ _ _ rfl⟩
  rintro m _ ⟨first, acc, p', f', hp', hac, rfl, hf1, hf2, hls, x, rfl⟩
  obtain ⟨g, rfl⟩ : ∃ g, f' = g + 1 := ⟨f' - 1, by omega⟩
  rw [list_eq] at hls
  have hm := more_ev lim _ r s p' first 93 (by decide) (d1 (rdO s p') zC (listO acc)) hl hs hp'
  cases hmo : moreS s first 93 p' with
  | error e =>
   rw [hmo] at hls
   refine v_r trivial ?_
   refine V_region ?_; refine VO_call rfl ?_; simp only [zz,simprocAttr]
   exact EvP.fv (hm.noJ hmo) ⟨_, by rw [hls], rfl⟩
  | ok y =>
   obtain ⟨b, q⟩ := y
   rw [hmo] at hls
   have hmb := more_lt hmo
   have hq := hmb.2.1 hp'
   have em : Ev X0 39 lim [.ptr r 0, boolD first, .d (.int .u8 93)] (K2 (rdO s p') zC (listO acc)) (boolD b) _ := hm.okJ hmo
   rw [d4] at em
   cases b with
   | false =>
    refine v_r trivial ?_
    (apply V_drw; focus (refine Evl.call (X := X0) (em) (Evl.all fun k e1 => ?_); simp (maxSteps := 100000000) only [zz,zd,simprocAttr,e1]; (first | done | with_reducible exact rfl))) <;> (try simp only [zp,simprocAttr])
    refine v_r (j_ d3 (j_ d2 (j_ d5 hll))) ?_
    refine ans_drop (vs := [.d (J.mk 4 0 [] [] acc).d]) ?_ (d0 _ _ _) hr rfl rfl ⟨_, q, by rw [hls], rfl, rfl⟩
    rw [jd]
    simp only [resV,zz,simprocAttr,d2]; rfl
   | true =>
    have wd : IntKind.i64.wrap ((deep : Int) + 1) = ((deep + 1 : Nat) : Int) := wpos (by omega)
    have hv1 := ih g (by omega) lim _ r s q (deep + 1) (d1 (rdO s q) zC (listO acc)) hl hs hq (by omega) (by omega)
    have hv2 := ih g (by omega) lim _ r s q (deep + 1) (d1 (rdO s q) zC (listT acc)) hl hs hq (by omega) (by omega)
    simp only at hls
    refine v_r trivial ?_
    (apply V_drw; focus (refine Evl.call (X := X0) (em) (Evl.all fun k e1 => ?_); simp (maxSteps := 100000000) only [zz,zd,simprocAttr,e1]; (first | done | with_reducible exact rfl))) <;> (try simp only [zp,simprocAttr])
    refine v_r trivial ?_
    cases hvo : valueS s g (deep + 1) q with
    | error e =>
     (apply V_pan; focus (refine Evl.panN (X := X0) (hv1.noJ hvo) (Evl.panN (X := X0) (hv2.noJ hvo) (Evl.all fun k e2 e1 => ?_)); simp (maxSteps := 100000000) only [zz,zd,simprocAttr,wd,d3,d6,hll2,tk25,e2,e1]; (first | done | with_reducible exact rfl)))
     exact ⟨e, by rw [hls, hvo], rfl⟩
    | ok y =>
     obtain ⟨j, z⟩ := y
     have hvl := value_lt hvo
     have ev1 := hv1.okJ hvo
     have ev2 := hv2.okJ hvo
     rw [d4] at ev1 ev2
     have hj := jd j
     have hz1 := headJ acc
     have hz2 : ((acc.map J.d).length + 1) * 85 ≤ 70368744177664 := by rw [List.length_map]; omega
     (apply V_drw; focus (refine Evl.call (X := X0) (ev1) (Evl.call (X := X0) (ev2) (Evl.all fun k e2 e1 => ?_)); simp (maxSteps := 100000000) only [zz,zd,simprocAttr,hj,hz1,hz2,wd,d3,d6,hll2,d4,e2,e1]; (first | done | with_reducible exact rfl))) <;> (try simp only [zp,simprocAttr])
     refine v_r trivial ?_
     refine ⟨s.length - z, by omega, false, acc ++ [j], z, g, hvl.2, by simp; omega, rfl, by omega, by omega, by rw [hls, hvo], ex_stH ?_ rfl⟩
     rw [← hj]; simp only [listO, List.map_append, List.map_cons, List.map_nil]
 have c1 : ((c.toNat : Int) == 91) = false := u8_f h91 rfl
 rw [if_neg h91]
 by_cases h123 : c = 123
 ·have hpl : p < s.length := nx_lt' (by rw [hc, h123]; decide)
  have c2 : ((c.toNat : Int) == 123) = true := u8_t h123 rfl
  have hd2 : deep ≤ 12 := by
   rw [h123] at hb
   simp only [show begins 123 = true from rfl, Bool.and_true, decide_eq_false_iff_not] at hb
   omega
  rw [if_pos h123]
  refine v_r (j_ c1 (j_ c2 (j_ k2 (j_ wp (j_ hl (j_ kk5 (j_ kk3 kk4))))))) ?_
  have hf0 := fields_all f (fun g hg => ih g (by omega)) lim _ r s (p + 1) deep (kk2 (rdO s (p + 1)) zC) hl hs (by omega) hd2 (by omega)
  cases ht : fieldsS s f deep true [] [] (p + 1) with
  | error e =>
   refine V_region ?_; refine VO_call rfl ?_; simp only [zz,simprocAttr]
   exact EvP.fv (hf0.noP ht) ⟨_, rfl, rfl⟩
  | ok y =>
   have ef := hf0.okP ht
   rw [kk4] at ef
   obtain ⟨ks, l, q⟩ := y
   have hj := jd (J.mk 5 0 [] ks l)
   (apply V_drw; focus (refine Evl.call (X := X0) (ef) (Evl.all fun k e1 => ?_); simp (maxSteps := 100000000) only [zz,zd,simprocAttr,hj,kk5,kk3,kk4,hll,e1]; (first | done | with_reducible exact rfl))) <;> (try simp only [zp,simprocAttr])
   refine v_r trivial ?_
   refine ans_drop (vs := [.d (J.mk 5 0 [] ks l).d]) ?_ (kk0 _ _) hr rfl rfl ⟨_, q, rfl, rfl, rfl⟩
   rw [jd]
   simp only [resV,zz,simprocAttr,kk3]
 have c2 : ((c.toNat : Int) == 123) = false := u8_f h123 rfl
 rw [if_neg h123]
 by_cases h34 : c = 34
 ·have c3 : ((c.toNat : Int) == 34) = true := u8_t h34 rfl
  rw [if_pos h34]
  refine v_r (j_ c1 (j_ c2 c3)) ?_
  cases ht : textS s p with
  | error e =>
   refine V_region ?_; refine VO_call rfl ?_; simp only [zz,simprocAttr]
   exact EvP.fv (text_no k2 hl hs hp ht) ⟨_, rfl, rfl⟩
  | ok y =>
   obtain ⟨t, q⟩ := y
   (apply V_drw; focus (refine Evl.call (X := X0) (text_ok k2 hl hs hp ht) (Evl.all fun k e1 => ?_); simp (maxSteps := 100000000) only [zz,zd,simprocAttr,kk5,kk3,kk4,hll,e1]; (first | done | with_reducible exact rfl))) <;> (try simp only [zp,simprocAttr])
   refine v_r trivial ?_
   refine ans_drop (vs := [.d (J.mk 3 0 t [] []).d]) ?_ (kk0 _ _) hr rfl rfl ⟨_, q, rfl, rfl, rfl⟩
   rw [jd]
   simp only [resV,zz,simprocAttr,kk3]; rfl
 have c3 : ((c.toNat : Int) == 34) = false := u8_f h34 rfl
 rw [if_neg h34]
 by_cases h110 : c = 110
 ·have c4 : ((c.toNat : Int) == 110) = true := u8_t h110 rfl
  rw [if_pos h110]
  refine v_r (j_ c1 (j_ c2 (j_ c3 c4))) ?_
  have hw := word_ev (pr := prims0) (pP := primsP) lim _ r s p [110, 117, 108, 108] 0 0 k2 hl hs (by decide) hp
  cases ht : wordS s [110, 117, 108, 108] p with
  | error e =>
   refine V_region ?_; apply VO_take 1; (focus (intro _; simp only [zz,simprocAttr]; (first | done | with_reducible exact rfl))); simp only [List.drop_succ_cons,List.drop_zero]; refine VO_call rfl ?_; simp only [zz,simprocAttr]
   exact EvP.fv (hw.noP ht) ⟨_, rfl, rfl⟩
  | ok q =>
   (apply V_drw; focus (refine Evl.call (X := X0) (hw.okP ht) (Evl.all fun k e1 => ?_); simp (maxSteps := 100000000) only [zz,zd,simprocAttr,kk5,kk3,kk4,hll,e1]; (first | done | with_reducible exact rfl))) <;> (try simp only [zp,simprocAttr])
   refine v_r trivial ?_
   refine ans_drop (vs := [.d (J.mk 0 0 [] [] []).d]) ?_ (kk0 _ _) hr rfl rfl ⟨_, q, rfl, rfl, rfl⟩
   rw [jd]
   simp only [resV,zz,simprocAttr,kk3]; rfl
 have c4 : ((c.toNat : Int) == 110) = false := u8_f h110 rfl
 rw [if_neg h110]
 by_cases h116 : c = 116
 ·have c5 : ((c.toNat : Int) == 116) = true := u8_t h116 rfl
  rw [if_pos h116]
  refine v_r (j_ c1 (j_ c2 (j_ c3 (j_ c4 c5)))) ?_
  have hw := word_ev (pr := prims0) (pP := primsP) lim _ r s p [116, 114, 117, 101] 1 1 k2 hl hs (by decide) hp
  cases ht : wordS s [116, 114, 117, 101] p with
  | error e =>
   refine V_region ?_; apply VO_take 1; (focus (intro _; simp only [zz,simprocAttr]; (first | done | with_reducible exact rfl))); simp only [List.drop_succ_cons,List.drop_zero]; refine VO_call rfl ?_; simp only [zz,simprocAttr]
   exact EvP.fv (hw.noP ht) ⟨_, rfl, rfl⟩
  | ok q =>
   (apply V_drw; focus (refine Evl.call (X := X0) (hw.okP ht) (Evl.all fun k e1 => ?_); simp (maxSteps := 100000000) only [zz,zd,simprocAttr,kk5,kk3,kk4,hll,e1]; (first | done | with_reducible exact rfl))) <;> (try simp only [zp,simprocAttr])
   refine v_r trivial ?_
   refine ans_drop (vs := [.d (J.mk 1 1 [] [] []).d]) ?_ (kk0 _ _) hr rfl rfl ⟨_, q, rfl, rfl, rfl⟩
   rw [jd]
   simp only [resV,zz,simprocAttr,kk3]; rfl
 have c5 : ((c.toNat : Int) == 116) = false := u8_f h116 rfl
 rw [if_neg h116]
 by_cases h102 : c = 102
 ·have c6 : ((c.toNat : Int) == 102) = true := u8_t h102 rfl
  rw [if_pos h102]
  refine v_r (j_ c1 (j_ c2 (j_ c3 (j_ c4 (j_ c5 c6))))) ?_
  have hw := word_ev (pr := prims0) (pP := primsP) lim _ r s p [102, 97, 108, 115, 101] 1 0 k2 hl hs (by decide) hp
  cases ht : wordS s [102, 97, 108, 115, 101] p with
  | error e =>
   refine V_region ?_; apply VO_take 1; (focus (intro _; simp only [zz,simprocAttr]; (first | done | with_reducible exact rfl))); simp only [List.drop_succ_cons,List.drop_zero]; refine VO_call rfl ?_; simp only [zz,simprocAttr]
   exact EvP.fv (hw.noP ht) ⟨_, rfl, rfl⟩
  | ok q =>
   (apply V_drw; focus (refine Evl.call (X := X0) (hw.okP ht) (Evl.all fun k e1 => ?_); simp (maxSteps := 100000000) only [zz,zd,simprocAttr,kk5,kk3,kk4,hll,e1]; (first | done | with_reducible exact rfl))) <;> (try simp only [zp,simprocAttr])
   refine v_r trivial ?_
   refine ans_drop (vs := [.d (J.mk 1 0 [] [] []).d]) ?_ (kk0 _ _) hr rfl rfl ⟨_, q, rfl, rfl, rfl⟩
   rw [jd]
   simp only [resV,zz,simprocAttr,kk3]; rfl
 have c6 : ((c.toNat : Int) == 102) = false := u8_f h102 rfl
 rw [if_neg h102]
 refine v_r (j_ c1 (j_ c2 (j_ c3 (j_ c4 (j_ c5 c6))))) ?_
 have hw := number_ev lim _ r s p k2 hl hs hp
 cases ht : numberS s p with
 | error e =>
  refine V_region ?_; refine VO_call rfl ?_; simp only [zz,simprocAttr]
  exact EvP.fv (hw.noJ ht) ⟨_, rfl, rfl⟩
 | ok y =>
  obtain ⟨j, q⟩ := y
  have hj := jd j
  (apply V_drw; focus (refine Evl.call (X := X0) (hw.okJ ht) (Evl.all fun k e1 => ?_); simp (maxSteps := 100000000) only [zz,zd,simprocAttr,hj,kk5,kk3,kk4,hll,e1]; (first | done | with_reducible exact rfl))) <;> (try simp only [zp,simprocAttr])
  refine v_r trivial ?_
  refine ans_drop (vs := [.d j.d]) ?_ (kk0 _ _) hr rfl rfl ⟨_, q, rfl, rfl, rfl⟩
  rw [jd]
  simp only [resV,zz,simprocAttr,kk3]
theorem value_all (f : Nat) : ValueOK f := by
 induction f using Nat.strongRecOn with
 | _ f ih =>
  cases f with
  | zero => intro _ _ _ _ _ _ _ _ _ _ _ h; omega
  | succ f => exact value_step f ih
end Go.Proofs.YtmhmjlfajlpabaaDoor
namespace Go.Proofs.YtmhmjlfajlpabaaDoor
open Go Go.Abs
/-! How big a value is. -/
mutual
def wt : J → Nat
 | .mk _ _ t ks l => 1 + t.length + (ks.map fun k => k.length + 1).sum + wts l
def wts : List J → Nat
 | [] => 0
 | a :: l => wt a + wts l
end
theorem wt_eq (j : J) : wt j = 1 + j.t.length + (j.ks.map fun k => k.length + 1).sum + wts j.l := by
 obtain ⟨k, n, t, ks, l⟩ := j
 conv => lhs; unfold wt
 rfl
theorem wts_cons (a : J) (l : List J) : wts (a :: l) = wt a + wts l := by
 conv => lhs; unfold wts
theorem wts_append : ∀ l m : List J, wts (l ++ m) = wts l + wts m
 | [], m => by simp [wts]
 | a :: l, m => by rw [List.cons_append, wts_cons, wts_cons, wts_append l m]; omega
theorem wt_pos (j : J) : 1 ≤ wt j := by rw [wt_eq]; omega
theorem wts_len : ∀ l : List J, l.length ≤ wts l
 | [] => Nat.zero_le _
 | a :: l => by have := wts_len l; have := wt_pos a; rw [wts_cons, List.length_cons]; omega
theorem wts_mem : ∀ {l : List J} {y : J}, y ∈ l → wt y ≤ wts l
 | a :: l, y, h => by
  rw [wts_cons]
  rcases List.mem_cons.1 h with rfl | h
  ·omega
  ·have := wts_mem h; omega
theorem sum_len : ∀ ks : List Tx, ks.length ≤ (ks.map fun k => k.length + 1).sum
 | [] => Nat.zero_le _
 | a :: l => by have := sum_len l; simp only [List.length_cons, List.map_cons, List.sum_cons]; omega
theorem sum_mem : ∀ {ks : List Tx} {k : Tx}, k ∈ ks → k.length < (ks.map fun k => k.length + 1).sum
 | a :: l, k, h => by
  simp only [List.map_cons, List.sum_cons]
  rcases List.mem_cons.1 h with rfl | h
  ·omega
  ·have := sum_mem h; omega
theorem wt_t (j : J) : j.t.length < wt j := by rw [wt_eq]; omega
theorem wt_ks (j : J) : j.ks.length ≤ wt j := by have := sum_len j.ks; rw [wt_eq]; omega
theorem wt_l (j : J) : j.l.length ≤ wt j := by have := wts_len j.l; rw [wt_eq]; omega
theorem wt_key {j : J} {k : Tx} (h : k ∈ j.ks) : k.length ≤ wt j := by have := sum_mem h; rw [wt_eq]; omega
theorem wt_mem {j y : J} (h : y ∈ j.l) : wt y < wt j := by have := wts_mem h; rw [wt_eq j]; omega
def OrdOK : Nat → J → Prop
 | 0, _ => False
 | n + 1, j => (j.k = 5 → j.ks.length = j.l.length ∧ j.ks.Nodup) ∧ (j.k ≠ 5 → j.ks = []) ∧ (j.k ≠ 4 → j.k ≠ 5 → j.l = []) ∧ ∀ y ∈ j.l, OrdOK n y
theorem OrdOK.succ : ∀ {n : Nat} {j : J}, OrdOK n j → OrdOK (n + 1) j
 | 0, _, h => h.elim
 | n + 1, j, ⟨h1, h2, h3, h4⟩ => ⟨h1, h2, h3, fun y hy => (h4 y hy).succ⟩
theorem OrdOK.mono {n m : Nat} {j : J} (h : OrdOK n j) (hm : n ≤ m) : OrdOK m j := by
 induction hm with
 | refl => exact h
 | step _ ih => exact ih.succ
abbrev OrdE (j : J) : Prop := ∃ n, OrdOK n j
theorem ord_all : ∀ {l : List J}, (∀ y ∈ l, OrdE y) → ∃ n, ∀ y ∈ l, OrdOK n y
 | [], _ => ⟨0, by simp⟩
 | a :: l, h => by
  obtain ⟨n, hn⟩ := h a (by simp)
  obtain ⟨m, hm⟩ := ord_all (l := l) fun y hy => h y (List.mem_cons_of_mem _ hy)
  refine ⟨max n m, fun y hy => ?_⟩
  rcases List.mem_cons.1 hy with rfl | hy
  ·exact hn.mono (Nat.le_max_left _ _)
  ·exact (hm y hy).mono (Nat.le_max_right _ _)
theorem ord_leaf {k n : Int} {t : Tx} (h : k ≠ 5) : OrdE (.mk k n t [] []) :=
 ⟨1, fun e => absurd e h, fun _ => rfl, fun _ _ => rfl, fun y hy => by cases hy⟩
theorem wt_leaf (k n : Int) (t : Tx) : wt (.mk k n t [] []) = 1 + t.length := by rw [wt_eq]; simp [J.t, J.ks, J.l, wts]
theorem good_ord : ∀ {n : Nat} {j : J}, goodB n j = true → OrdOK n j
 | 0, _, h => by cases h
 | n + 1, j, h => by
  obtain ⟨h1, h2⟩ := Bool.and_eq_true_iff.1 (show (shapedB j && j.l.all (goodB n)) = true from h)
  have hall : ∀ y ∈ j.l, OrdOK n y := fun y hy => good_ord (List.all_eq_true.1 h2 y hy)
  have hemp : emptyB j = true → j.ks = [] ∧ j.l = [] := fun h => by
   have := of_decide_eq_true h
   exact ⟨List.length_eq_zero_iff.1 (by omega), List.length_eq_zero_iff.1 (by omega)⟩
  unfold shapedB at h1
  split at h1
  ·rename_i hk
   obtain ⟨e1, e2⟩ := hemp (by simp only [Bool.and_eq_true] at h1; exact h1.1.1)
   exact ⟨(fun e => absurd (hk.symm.trans e) (by decide)), fun _ => e1, fun _ _ => e2, hall⟩
  split at h1
  ·rename_i hk
   obtain ⟨e1, e2⟩ := hemp (by simp only [Bool.and_eq_true] at h1; exact h1.1.1)
   exact ⟨(fun e => absurd (hk.symm.trans e) (by decide)), fun _ => e1, fun _ _ => e2, hall⟩
  split at h1
  ·rename_i hk
   obtain ⟨e1, e2⟩ := hemp (by simp only [Bool.and_eq_true] at h1; exact h1.1.1.1)
   exact ⟨(fun e => absurd (hk.symm.trans e) (by decide)), fun _ => e1, fun _ _ => e2, hall⟩
  split at h1
  ·rename_i hk
   obtain ⟨e1, e2⟩ := hemp (by simp only [Bool.and_eq_true] at h1; exact h1.1.1)
   exact ⟨(fun e => absurd (hk.symm.trans e) (by decide)), fun _ => e1, fun _ _ => e2, hall⟩
  split at h1
  ·rename_i hk
   simp only [Bool.and_eq_true, decide_eq_true_eq] at h1
   exact ⟨(fun e => absurd (hk.symm.trans e) (by decide)), fun _ => List.length_eq_zero_iff.1 h1.1.1, fun e => absurd hk e, hall⟩
  split at h1
  ·rename_i hk
   simp only [Bool.and_eq_true, decide_eq_true_eq, namedB] at h1
   exact ⟨fun _ => ⟨h1.1.1.1, h1.2.2⟩, fun e => absurd hk e, fun _ e => absurd hk e, hall⟩
  ·cases h1
theorem chars_len {s : Tx} : ∀ {f : Nat} {acc : Tx} {p q : Nat} {t : Tx}, charsS s f acc p = .ok (t, q) → t.length + 4 * p ≤ acc.length + 4 * q
 | 0, _, _, _, _, h => by cases h
 | f + 1, acc, p, q, t, h => by
  unfold charsS at h
  split at h
  ·cases h
  ·split at h
   ·cases h
   ·split at h
    ·cases h; omega
    ·split at h
     ·split at h
      ·cases h
      ·rename_i n r he
       have := chars_len h
       have := (esc_lt he).1
       have : (runeB n).length ≤ 4 := by unfold runeB; (repeat' split) <;> simp
       rw [List.length_append] at *
       omega
     ·have := chars_len h
      rw [List.length_append, List.length_singleton] at this
      omega
theorem text_len {s : Tx} {p q : Nat} {t : Tx} (h : textS s p = .ok (t, q)) : t.length + 4 * p + 4 ≤ 4 * q := by
 unfold textS at h
 split at h
 ·cases h
 ·rename_i r hw
  have := (want_lt hw).1
  have := chars_len h
  simp only [List.length_nil] at this
  omega
theorem number_ord {s : Tx} {p q : Nat} {j : J} (h : numberS s p = .ok (j, q)) : OrdE j ∧ wt j = 1 := by
 unfold numberS at h
 simp only at h
 generalize (if nx s p = 45 then p + 1 else p) = f at h
 split at h
 ·split at h
  ·cases h
  ·split at h
   ·cases h
   ·cases h; exact ⟨ord_leaf (by decide), wt_leaf _ _ _⟩
 ·cases h
theorem all_ord (s : Tx) : ∀ f : Nat, (∀ deep p j q, valueS s f deep p = .ok (j, q) → OrdE j ∧ wt j + 8 * p ≤ 8 * q) ∧
  (∀ deep first acc p l q, listS s f deep first acc p = .ok (l, q) → (∀ y ∈ acc, OrdE y) → (∀ y ∈ l, OrdE y) ∧ wts l + 8 * p + 8 ≤ wts acc + 8 * q) ∧
  (∀ deep first ks acc p k l q, fieldsS s f deep first ks acc p = .ok (k, l, q) → ks.length = acc.length → ks.Nodup → (∀ y ∈ acc, OrdE y) → k.length = l.length ∧ k.Nodup ∧ (∀ y ∈ l, OrdE y) ∧ wts l + (k.map fun k => k.length + 1).sum + 8 * p + 8 ≤ wts acc + (ks.map fun k => k.length + 1).sum + 8 * q) := by
 intro f
 induction f with
 | zero =>
  refine ⟨fun _ _ _ _ h => ?_, fun _ _ _ _ _ _ h => ?_, fun _ _ _ _ _ _ _ _ h => ?_⟩
  ·unfold valueS at h; cases h
  ·unfold listS at h; cases h
  ·unfold fieldsS at h; cases h
 | succ f ih =>
  refine ⟨fun deep p j q h => ?_, fun deep first acc p l q h hy => ?_, fun deep first ks acc p k l q h hk hd hy => ?_⟩
  ·have hpq := value_lt h
   unfold valueS at h
   split at h
   ·cases h
   split at h
   ·split at h
    ·cases h
    ·rename_i l q' h1
     obtain ⟨r2, r3⟩ := ih.2.1 _ _ _ _ _ _ h1 (by simp)
     cases h
     obtain ⟨n, hn⟩ := ord_all r2
     refine ⟨⟨n + 1, (fun e => absurd (show (4 : Int) = 5 from e) (by decide)), fun _ => rfl, fun e => absurd rfl e, hn⟩, ?_⟩
     rw [wt_eq]
     simp only [J.t, J.ks, J.l, List.length_nil, List.map_nil, List.sum_nil, wts] at r3 ⊢
     omega
   split at h
   ·split at h
    ·cases h
    ·rename_i k l q' h1
     obtain ⟨r2, r3, r4, r5⟩ := ih.2.2 _ _ _ _ _ _ _ _ h1 rfl List.nodup_nil (by simp)
     cases h
     obtain ⟨n, hn⟩ := ord_all r4
     refine ⟨⟨n + 1, (fun _ => ⟨r2, r3⟩), fun e => absurd rfl e, fun _ e => absurd rfl e, hn⟩, ?_⟩
     rw [wt_eq]
     simp only [J.t, J.ks, J.l, List.length_nil, List.map_nil, List.sum_nil, wts] at r5 ⊢
     omega
   split at h
   ·split at h
    ·cases h
    ·rename_i t q' h1
     have := text_len h1
     cases h
     exact ⟨ord_leaf (by decide), by rw [wt_leaf]; omega⟩
   split at h
   ·split at h
    ·cases h
    ·cases h; exact ⟨ord_leaf (by decide), by rw [wt_leaf]; simp only [List.length_nil]; omega⟩
   split at h
   ·split at h
    ·cases h
    ·cases h; exact ⟨ord_leaf (by decide), by rw [wt_leaf]; simp only [List.length_nil]; omega⟩
   split at h
   ·split at h
    ·cases h
    ·cases h; exact ⟨ord_leaf (by decide), by rw [wt_leaf]; simp only [List.length_nil]; omega⟩
   obtain ⟨r1, r2⟩ := number_ord h
   exact ⟨r1, by rw [r2]; omega⟩
  ·unfold listS at h
   split at h
   ·cases h
   ·rename_i q' h1
    have := (more_lt h1).2.2 rfl
    cases h
    exact ⟨hy, by omega⟩
   ·rename_i p' h1
    have := more_lt h1
    split at h
    ·cases h
    ·rename_i j q' h2
     obtain ⟨hj, hw⟩ := ih.1 _ _ _ _ h2
     obtain ⟨r1, r2⟩ := ih.2.1 _ _ _ _ _ _ h fun y hy' => by
      rcases List.mem_append.1 hy' with h' | h'
      ·exact hy y h'
      ·rw [List.mem_singleton.1 h']; exact hj
     refine ⟨r1, ?_⟩
     rw [wts_append] at r2
     simp only [wts] at r2
     omega
  ·unfold fieldsS at h
   split at h
   ·cases h
   ·rename_i q' h1
    have := (more_lt h1).2.2 rfl
    cases h
    exact ⟨hk, hd, hy, by omega⟩
   ·rename_i p' h1
    have hm := more_lt h1
    split at h
    ·cases h
    ·rename_i k' q' h2
     have ht := text_len h2
     split at h
     ·cases h
     ·rename_i hkc
      split at h
      ·cases h
      ·rename_i r h3
       have hw := want_lt h3
       split at h
       ·cases h
       ·rename_i j z h4
        have b1 := blanks_le' s q'
        have b2 := blanks_le' s r
        obtain ⟨hj, hjw⟩ := ih.1 _ _ _ _ h4
        obtain ⟨r1, r2, r3, r4⟩ := ih.2.2 _ _ _ _ _ _ _ _ h (by simp [hk]) (by
         refine List.nodup_append.2 ⟨hd, by simp, fun a ha b hb e => ?_⟩
         have : b = k' := by simpa using hb
         subst this; subst e
         exact hkc (by simpa using ha)) fun y hy' => by
          rcases List.mem_append.1 hy' with h' | h'
          ·exact hy y h'
          ·rw [List.mem_singleton.1 h']; exact hj
        refine ⟨r1, r2, r3, ?_⟩
        rw [wts_append] at r4
        simp only [wts, List.map_append, List.map_cons, List.map_nil, List.sum_append, List.sum_cons, List.sum_nil] at r4
        omega
theorem value_ord {s : Tx} {f deep p q : Nat} {j : J} (h : valueS s f deep p = .ok (j, q)) : OrdE j ∧ wt j + 8 * p ≤ 8 * q := (all_ord s f).1 _ _ _ _ h
end Go.Proofs.YtmhmjlfajlpabaaDoor
set_option maxRecDepth 100000
namespace Go.Proofs.YtmhmjlfajlpabaaDoor
open Go Go.Abs
variable {pr : FuncId → Option AFun} {pP : FuncId → Option PFun} [POK pr] [PPOK pr pP]
theorem trey (H : AHeap) (o : AObj) : ∃ K : AObj → AObj → AHeap, (∀ a b, K a b = H ++ [o, a, b]) ∧ (∀ a b, (K a b)[H.length]? = some o) ∧ (∀ a b, (K a b)[H.length + 1]? = some a) ∧ (∀ a b, (K a b)[H.length + 2]? = some b) ∧
  (∀ a b a', (K a b).set (H.length + 1) a' = K a' b) ∧ (∀ a b b', (K a b).set (H.length + 2) b' = K a b') := by
 refine ⟨fun a b => H ++ [o, a, b], fun _ _ => rfl, fun a b => ?_, fun a b => ?_, fun a b => ?_, fun a b a' => ?_, fun a b b' => ?_⟩
 ·simp only; rw [List.getElem?_append_right (by simp)]; simp
 ·simp only; rw [List.getElem?_append_right (by simp)]; simp
 ·simp only; rw [List.getElem?_append_right (by simp)]; simp
 ·simp only; rw [List.set_append_right _ _ (by simp)]; simp
 ·simp only; rw [List.set_append_right _ _ (by simp)]; simp
abbrev zO : AObj := .cells [intD 0, intD 0, .d (.str []), .fslice [], .fslice []]
abbrev nO (n : Int) : AObj := .cells [intD n]
abbrev jO (j : J) : AObj := .cells (jC j)
theorem four (H : AHeap) : ∃ K : AObj → AObj → AObj → AObj → AHeap, (∀ a b c o, K a b c o = H ++ [a, b, c, o]) ∧ (∀ a b c o, (K a b c o)[H.length]? = some a) ∧ (∀ a b c o, (K a b c o)[H.length + 1]? = some b) ∧ (∀ a b c o, (K a b c o)[H.length + 2]? = some c) ∧ (∀ a b c o, (K a b c o)[H.length + 3]? = some o) ∧
  (∀ a b c o a', (K a b c o).set H.length a' = K a' b c o) ∧ (∀ a b c o a', (K a b c o).set (H.length + 1) a' = K a a' c o) ∧ (∀ a b c o a', (K a b c o).set (H.length + 2) a' = K a b a' o) ∧ (∀ a b c o a', (K a b c o).set (H.length + 3) a' = K a b c a') := by
 refine ⟨fun a b c o => H ++ [a, b, c, o], fun _ _ _ _ => rfl, ?_, ?_, ?_, ?_, ?_, ?_, ?_, ?_⟩ <;> intros <;> simp only
 ·rw [List.getElem?_append_right (by omega)]; simp
 ·rw [List.getElem?_append_right (by omega)]; simp
 ·rw [List.getElem?_append_right (by omega)]; simp
 ·rw [List.getElem?_append_right (by omega)]; simp
 ·rw [List.set_append_right _ _ (by omega)]; simp
 ·rw [List.set_append_right _ _ (by omega)]; simp
 ·rw [List.set_append_right _ _ (by omega)]; simp
 ·rw [List.set_append_right _ _ (by omega)]; simp
theorem three (H : AHeap) : ∃ K : AObj → AObj → AObj → AHeap, (∀ a b c, K a b c = H ++ [a, b, c]) ∧ (∀ a b c, (K a b c)[H.length]? = some a) ∧ (∀ a b c, (K a b c)[H.length + 1]? = some b) ∧ (∀ a b c, (K a b c)[H.length + 2]? = some c) ∧
  (∀ a b c a', (K a b c).set H.length a' = K a' b c) ∧ (∀ a b c a', (K a b c).set (H.length + 1) a' = K a a' c) ∧ (∀ a b c a', (K a b c).set (H.length + 2) a' = K a b a') := by
 refine ⟨fun a b c => H ++ [a, b, c], fun _ _ _ => rfl, ?_, ?_, ?_, ?_, ?_, ?_⟩ <;> intros <;> simp only
 ·rw [List.getElem?_append_right (by omega)]; simp
 ·rw [List.getElem?_append_right (by omega)]; simp
 ·rw [List.getElem?_append_right (by omega)]; simp
 ·rw [List.set_append_right _ _ (by omega)]; simp
 ·rw [List.set_append_right _ _ (by omega)]; simp
 ·rw [List.set_append_right _ _ (by omega)]; simp
theorem trey_more {H : AHeap} {o : AObj} {K : AObj → AObj → AHeap} (kk : ∀ a b, K a b = H ++ [o, a, b]) (a : AObj) (M : List AObj) : ∃ G : AObj → AObj → AHeap, (∀ b q, K a b ++ M ++ [q] = G b q) ∧ (∀ b, (K a b ++ M).length = H.length + 3 + M.length) ∧ (∀ b q, (G b q)[H.length + 3 + M.length]? = some q) ∧ (∀ b q, (G b q)[H.length + 2]? = some b) ∧ (∀ b q b', (G b q).set (H.length + 2) b' = G b' q) ∧ (∀ b q q', (G b q).set (H.length + 3 + M.length) q' = G b q') := by
 have hl : ∀ b, (K a b ++ M).length = H.length + 3 + M.length := fun b => by rw [kk]; simp; omega
 refine ⟨fun b q => K a b ++ M ++ [q], fun _ _ => rfl, hl, fun b q => ?_, fun b q => ?_, fun b q b' => ?_, fun b q q' => ?_⟩
 ·simp only; rw [← hl b]; simp
 ·simp only [kk, List.append_assoc]; rw [List.getElem?_append_right (by omega)]; simp
 ·simp only [kk, List.append_assoc]; rw [List.set_append_right _ _ (by omega)]; simp
 ·simp only; rw [← hl b, List.set_append_right _ _ (by omega)]; simp
abbrev outO (k n : Int) (t : Tx) (ks : List Tx) (l : List J) : AObj := .cells [.d (.int .i64 k), .d (.int .i64 n), .d (.str t), .fslice (ks.map D.str), .fslice (l.map J.d)]
abbrev outT (k n : Int) (t : Tx) (ks : List Tx) (l : List J) : AObj := .cells [.d (.int .i64 k), .d (.int .i64 n), .d (.str t), .fslice (ks.map D.str), .d (.slice (l.map J.d))]
abbrev outL (k n : Int) (t : Tx) (l : List J) : AObj := .cells [.d (.int .i64 k), .d (.int .i64 n), .d (.str t), .fslice [], .fslice (l.map J.d)]
abbrev outLT (k n : Int) (t : Tx) (l : List J) : AObj := .cells [.d (.int .i64 k), .d (.int .i64 n), .d (.str t), .fslice [], .d (.slice (l.map J.d))]
theorem map_succ {α β : Type} (f : α → β) {l : List α} {i : Nat} {a : α} (h : l[i]? = some a) : (l.take i).map f ++ [f a] = (l.take (i + 1)).map f := by
 rw [List.take_add_one, h]; simp
theorem ordered_ev : ∀ (n : Nat) (lim : Nat) (H : AHeap) (j : J), OrdOK n j → wt j ≤ 100000000000 → Ev (envN code pr) 27 lim [.d j.d] H (.d (orderJ j).d) H
 | 0, _, _, _, h, _ => h.elim
 | n + 1, lim, H, j, ⟨hm, _, _, hy⟩, hwt => by
  have hk := wt_ks j
  have hl := wt_l j
  have hyw : ∀ y ∈ j.l, wt y ≤ 100000000000 := fun y hy => by have := wt_mem hy; omega
  refine Fn.ev ?_
  refine Fn_of (pn rfl) rfl (show code 27 = some c27 from rfl) rfl ?_; simp only [List.length_cons,List.length_nil,List.cons_append,List.nil_append,simprocAttr]
  obtain ⟨K, kk, k0, k1, k2, k3, k4⟩ := trey H (.cells (jC j))
  have hjd := jd j
  have a1 : (H ++ [AObj.cells (jC j)]).length = H.length + 1 := by simp
  have a2 : ∀ o, (H ++ [AObj.cells (jC j)] ++ [o]).length = H.length + 2 := fun o => by simp
  have a3 : ∀ o o', (H ++ [AObj.cells (jC j)] ++ [o] ++ [o']) = K o o' := fun o o' => by rw [kk]; simp
  have a4 : ∀ o, (H ++ [AObj.cells (jC j)] ++ [o])[H.length]? = some (.cells (jC j)) := fun o => by simp
  have hll1 : H.length ≤ H.length + 1 := by omega
  have hll2 : H.length ≤ H.length + 2 := by omega
  rw [orderJ_eq]
  (iterate 4 refine w_s (j_ hjd (j_ a1 (j_ a2 (j_ a3 (j_ a4 (j_ k0 (j_ k1 (j_ k2 (j_ k3 (j_ k4 hll2)))))))))) ?_)
  by_cases h5 : j.k = 5
  ·rw [if_pos h5]
   have c5 : (j.k == 5) = true := by simpa using h5
   obtain ⟨hkl, hnd⟩ := hm h5
   refine w_r (j_ k0 c5) ?_
   have hpl := places_ev (pr := pr) H.length (K (outO 0 0 [] [] []) (outO j.k j.n j.t [] [])) j.ks (by omega) hnd
   obtain ⟨P, hP⟩ : ∃ P, byKeys j.ks = P := ⟨_, rfl⟩
   have hPl := byKeys_length j.ks
   have hPm : ∀ i ∈ P, i < j.ks.length := fun i hi => byKeys_lt (hP ▸ hi)
   rw [hP] at hpl hPl
   simp only [outO, List.map_nil] at hpl
   rw [hP]
   refine w_1 hpl (j_ k0 (@List.length_map.{0,0})) ?_
   refine w_r trivial ?_
   refine W_lp (fun k st => ∃ i : Nat, i ≤ P.length ∧ k = P.length - i ∧ ∃ x : Nat → AV, st = ⟨[x 0, x 1, x 2, x 3, .ptr (H.length + 1) 0, .ptr H.length 0, .ptr (H.length + 2) 0, .d (.slice (P.map fun (i : Nat) => D.int .i64 (i : Int))), intD P.length, intD i, x 10, x 11, x 12, x 13, x 14, x 15, x 16, x 17], K (outO 0 0 [] [] []) (outO j.k j.n j.t ((P.take i).map fun i => j.ks.getD i []) ((P.take i).map fun i => (j.l.map orderJ).getD i J.zero))⟩) ?_ _ _ ⟨0, Nat.zero_le _, rfl, ex_st _ _ _ rfl⟩
   rintro k _ ⟨i, hi, rfl, x, rfl⟩
   by_cases t0 : i < P.length
   ·have f1 : ((i : Int) < (P.length : Int)) = True := eq_true (by omega)
    have w1 : IntKind.i64.wrap ((i : Int) + 1) = ((i + 1 : Nat) : Int) := wsucc (by omega)
    obtain ⟨p, hp⟩ : ∃ p, P[i]? = some p := ⟨_, List.getElem?_eq_getElem t0⟩
    have hpk := hPm p (List.mem_of_getElem? hp)
    obtain ⟨s, hs⟩ : ∃ s, j.ks[p]? = some s := ⟨_, List.getElem?_eq_getElem hpk⟩
    obtain ⟨y, hy'⟩ : ∃ y, j.l[p]? = some y := ⟨_, List.getElem?_eq_getElem (by omega)⟩
    have hyd := jd y
    have hod := jd (orderJ y)
    have e1 := map_succ (fun i => j.ks.getD i []) hp
    have e2 := map_succ (fun i => (j.l.map orderJ).getD i J.zero) hp
    have g1 : j.ks.getD p [] = s := by simp [List.getD, hs]
    have g2 : (j.l.map orderJ).getD p J.zero = orderJ y := by simp [List.getD, hy']
    rw [g1] at e1
    rw [g2] at e2
    have ho := fun M => ordered_ev n H.length M y (hy y (List.mem_of_getElem? hy')) (hyw y (List.mem_of_getElem? hy'))
    simp only [hyd, hod] at ho
    have n1 : ((P.take i).map fun i => j.ks.getD i []).length = i := by simp; omega
    have n2 : ((P.take i).map fun i => (j.l.map orderJ).getD i J.zero).length = i := by simp; omega
    generalize ((P.take i).map fun i => j.ks.getD i []) = A at *
    generalize ((P.take i).map fun i => (j.l.map orderJ).getD i J.zero) = B at *
    have m1 : A.map D.str ++ [D.str s] = (A ++ [s]).map D.str := by simp
    have m2 : B.map J.d ++ [D.agg [.int .i64 (orderJ y).k, .int .i64 (orderJ y).n, .str (orderJ y).t, sD (orderJ y).ks, jsD (orderJ y).l]] = (B ++ [orderJ y]).map J.d := by simp [hod]
    have z1 := headS A
    have z2 := headJ B
    have b1 : (i + 1) * 17 ≤ 70368744177664 := by omega
    have b2 : (i + 1) * 85 ≤ 70368744177664 := by omega
    have hc : ∀ s : Tx, (D.str s).cells = [D.str s] := fun _ => rfl
    (iterate 10 refine w_s (j_ f1 hp) ?_)
    (apply W_rg; focus (intro k; simp (maxSteps := 100000000) only [zz,zd,simprocAttr,k0,k2,k4,hs,hc,z1,n1,b1,m1,e1,List.length_map,hll2]; (first | done | with_reducible exact rfl))) <;> (try simp only [zp,simprocAttr])
    obtain ⟨A', hA⟩ : ∃ A', ((P.take (i + 1)).map fun i => j.ks.getD i []) = A' := ⟨_, rfl⟩
    rw [hA]
    refine w_2 ((ho (K (outO 0 0 [] [] []) (outO j.k j.n j.t A' B)))) ((ho (K (outO 0 0 [] [] []) (outT j.k j.n j.t A' B)))) (j_ k0 (j_ k2 (j_ k4 (j_ hy' (j_ hyd (j_ z2 (j_ n2 (j_ b2 (j_ m2 (j_ e2 (j_ (@List.length_map.{0,0}) hll2))))))))))) ?_
    refine w_r w1 ?_
    exact ⟨P.length - (i + 1), by omega, i + 1, t0, rfl, ex_stH (by first | rw [hA, e2] | rw [hA]) rfl⟩
   ·obtain rfl : i = P.length := by omega
    have f1 : ((P.length : Int) < (P.length : Int)) = False := eq_false (by omega)
    rw [List.take_length]
    refine w_r (j_ f1 (j_ k1 (j_ k2 (j_ k3 hll1)))) ?_
    refine ans_cut (vs := [.d (.agg [.int .i64 j.k, .int .i64 j.n, .str j.t, sD (P.map fun i => j.ks.getD i []), jsD (P.map fun i => (j.l.map orderJ).getD i J.zero)])]) ?_ rfl ⟨by rw [jd]; rfl, rfl⟩
    simp only [resV,zz,simprocAttr,k1]
  ·rw [if_neg h5]
   have c5 : (j.k == 5) = false := by simpa using h5
   refine w_r (j_ k0 (j_ c5 (@List.length_map.{0,0}))) ?_
   refine W_lp (fun k st => ∃ (i : Nat) (M : List AObj), i ≤ j.l.length ∧ k = j.l.length - i ∧ ∃ x : Nat → AV, st = ⟨[x 0, x 1, x 2, x 3, .ptr (H.length + 1) 0, .ptr H.length 0, .ptr (H.length + 2) 0, x 7, x 8, x 9, x 10, .d (jsD j.l), intD j.l.length, intD i, x 14, x 15, x 16, x 17], K (outO 0 0 [] [] []) (outL j.k j.n j.t ((j.l.take i).map orderJ)) ++ M⟩) ?_ _ _ ⟨0, [], Nat.zero_le _, rfl, ex_stH (by rw [List.append_nil]; rfl) rfl⟩
   rintro k _ ⟨i, M, hi, rfl, x, rfl⟩
   by_cases t0 : i < j.l.length
   ·have f1 : ((i : Int) < (j.l.length : Int)) = True := eq_true (by omega)
    have w1 : IntKind.i64.wrap ((i : Int) + 1) = ((i + 1 : Nat) : Int) := wsucc (by omega)
    obtain ⟨y, hy'⟩ : ∃ y, j.l[i]? = some y := ⟨_, List.getElem?_eq_getElem t0⟩
    have hyd := jd y
    have hod := jd (orderJ y)
    have e2 := map_succ orderJ hy'
    have ho := fun M => ordered_ev n H.length M y (hy y (List.mem_of_getElem? hy')) (hyw y (List.mem_of_getElem? hy'))
    simp only [hyd, hod] at ho
    have n2 : ((j.l.take i).map orderJ).length = i := by simp; omega
    generalize (j.l.take i).map orderJ = B at *
    obtain ⟨G, gg, gl, g0, g2, g3, g4⟩ := trey_more kk (outO 0 0 [] [] []) M
    have hll3 : H.length ≤ H.length + 3 + M.length := by omega
    have z2 := headJ B
    have b2 : (i + 1) * 85 ≤ 70368744177664 := by omega
    have m2 : B.map J.d ++ [D.agg [.int .i64 (orderJ y).k, .int .i64 (orderJ y).n, .str (orderJ y).t, sD (orderJ y).ks, jsD (orderJ y).l]] = (B ++ [orderJ y]).map J.d := by simp [hod]
    (iterate 9 refine w_s (j_ f1 (j_ hy' (j_ hyd (j_ gg (j_ gl (j_ g0 (j_ g4 hll3))))))) ?_)
    refine w_2 ((ho (G (outL j.k j.n j.t B) (.cells (jC y))))) ((ho (G (outLT j.k j.n j.t B) (.cells (jC y))))) (j_ g0 (j_ g2 (j_ g3 (j_ z2 (j_ n2 (j_ b2 (j_ m2 (j_ (@List.length_map.{0,0}) hll2)))))))) ?_
    refine w_r w1 ?_
    exact ⟨j.l.length - (i + 1), by omega, i + 1, M ++ [.cells (jC y)], t0, rfl, ex_stH (by rw [← List.append_assoc, gg, ← e2]) rfl⟩
   ·obtain rfl : i = j.l.length := by omega
    have f1 : ((j.l.length : Int) < (j.l.length : Int)) = False := eq_false (by omega)
    rw [List.take_length]
    obtain ⟨G, h1, h2, h3⟩ : ∃ G : AObj → AHeap, (∀ a, K a (outL j.k j.n j.t (j.l.map orderJ)) ++ M = G a) ∧ (∀ a, (G a)[H.length + 2]? = some (outL j.k j.n j.t (j.l.map orderJ))) ∧ (∀ a a', (G a).set (H.length + 1) a' = G a') ∧ (∀ a, (G a)[H.length + 1]? = some a) := by
     refine ⟨fun a => K a (outL j.k j.n j.t (j.l.map orderJ)) ++ M, fun _ => rfl, fun a => ?_, fun a a' => ?_, fun a => ?_⟩
     ·simp only [kk, List.append_assoc]; rw [List.getElem?_append_right (by omega)]; simp
     ·simp only [kk, List.append_assoc]; rw [List.set_append_right _ _ (by omega)]; simp
     ·simp only [kk, List.append_assoc]; rw [List.getElem?_append_right (by omega)]; simp
    rw [h1]
    obtain ⟨h3, h4⟩ := h3
    refine w_r (j_ f1 (j_ h2 (j_ h3 (j_ h4 hll1)))) ?_
    refine ans_cut (vs := [.d (.agg [.int .i64 j.k, .int .i64 j.n, .str j.t, sD [], jsD (j.l.map orderJ)])]) ?_ rfl ⟨by rw [jd]; rfl, rfl⟩
    simp only [resV,zz,simprocAttr,h4]; rfl
end Go.Proofs.YtmhmjlfajlpabaaDoor
set_option maxRecDepth 100000
namespace Go.Proofs.YtmhmjlfajlpabaaDoor
open Go Go.Abs Go.Lib
theorem b_and (k : IntKind) (a b : Nat) : binInt .and k (a : Int) (b : Int) = some (.int k (k.wrap (((a % 2 ^ k.bits) &&& (b % 2 ^ k.bits) : Nat) : Int))) := by
 have : binInt .and k (a : Int) (b : Int) = some (.int k (k.wrap ((BitVec.ofInt k.bits (a : Int) &&& BitVec.ofInt k.bits (b : Int)).toNat : Nat))) := rfl
 rw [this, ofInt_nat, ofInt_nat, BitVec.toNat_and, BitVec.toNat_ofNat, BitVec.toNat_ofNat]
theorem fn_out {f : FuncId} {lim : Nat} {a : List AV} {H : AHeap} {Q : AV → AHeap → Prop} (h : Go.Abs.Fn (envN code primsF) f lim a H Q) : ∃ v H', Ev (envN code primsF) f lim a H v H' ∧ Q v H' := by
 unfold Go.Abs.Fn at h; exact h
theorem all_cut {α : Type} {l : List α} {i : Nat} {x : α} (h : l[i]? = some x) (f : α → Bool) : (l.take (i + 1)).all f = ((l.take i).all f && f x) := by
 rw [List.take_add_one, h, List.all_append]; simp
theorem any_cut {α : Type} {l : List α} {i : Nat} {x : α} (h : l[i]? = some x) (f : α → Bool) : (l.take (i + 1)).any f = ((l.take i).any f || f x) := by
 rw [List.take_add_one, h, List.any_append]; simp
theorem all_no {α : Type} {l : List α} {i : Nat} {x : α} (h : l[i]? = some x) {f : α → Bool} (hf : f x = false) : l.all f = false := by
 rw [List.all_eq_false]; exact ⟨x, List.mem_of_getElem? h, by simp [hf]⟩
theorem any_yes {α : Type} {l : List α} {i : Nat} {x : α} (h : l[i]? = some x) {f : α → Bool} (hf : f x = true) : l.any f = true := by
 rw [List.any_eq_true]; exact ⟨x, List.mem_of_getElem? h, hf⟩
def midK (P : St → Prop) (Q : AExit → St → Prop) : AExit → St → Prop
 | .normal, s => P s
 | .exit i, s => Q (.exit i) s
 | .ret, s => Q .ret s
def isLet (c : Nat) : Bool := decide (c ≤ 1114111) && (decide (c < 55296) || decide (57343 < c))
def acc (s : List UInt8) (a c0 : Nat) : Nat → Nat
 | 0 => c0
 | j + 1 => acc s a c0 j * 64 + by' s (a + (j + 1)) % 64
def Cls (b m least c0 : Nat) : Prop := (m = 1 ∧ least = 128 ∧ b / 32 = 6 ∧ c0 = b % 32) ∨ (m = 2 ∧ least = 2048 ∧ b / 16 = 14 ∧ c0 = b % 16) ∨ (m = 3 ∧ least = 65536 ∧ b / 8 = 30 ∧ c0 = b % 8)
theorem Cls.no {s : List UInt8} {a m least c0 : Nat} (h : Cls (by' s a) m least c0)
  (hn : (∃ j, 1 ≤ j ∧ j ≤ m ∧ (¬ a + j < s.length ∨ by' s (a + j) / 64 ≠ 2)) ∨ acc s a c0 m < least ∨ ¬ (acc s a c0 m ≤ 1114111 ∧ (acc s a c0 m < 55296 ∨ 57343 < acc s a c0 m))) : dc (s.drop a) = (65533, 1) := by
 have hd : dc (s.drop a) = decodeN (s.length - a) (by' s a) (by' s (a + 1)) (by' s (a + 2)) (by' s (a + 3)) := by unfold dc; simp only [by_drop, List.length_drop, Nat.add_zero]
 rw [hd]
 have bad : ∀ j, (¬ a + j < s.length ∨ by' s (a + j) / 64 ≠ 2) → ¬ (j < s.length - a ∧ by' s (a + j) / 64 = 2) := fun j h k => by omega
 rcases h with ⟨rfl, rfl, h3, rfl⟩ | ⟨rfl, rfl, h3, rfl⟩ | ⟨rfl, rfl, h3, rfl⟩
 ·unfold decodeN
  rw [if_neg (by omega)]
  by_cases k : 1 < s.length - a ∧ by' s (a + 1) / 64 = 2
  ·rw [if_pos ⟨h3, k⟩]
   rcases hn with ⟨j, h4, h5, h6⟩ | hn
   ·obtain rfl : j = 1 := by omega
    exact absurd k (bad _ h6)
   ·simp only [acc] at hn
    split
    ·exfalso; omega
    ·rfl
  ·rw [if_neg (fun h => k h.2), if_neg (by omega), if_neg (by omega)]
 ·unfold decodeN
  rw [if_neg (by omega), if_neg (by omega)]
  by_cases k : (1 < s.length - a ∧ by' s (a + 1) / 64 = 2) ∧ (2 < s.length - a ∧ by' s (a + 2) / 64 = 2)
  ·rw [if_pos ⟨h3, k⟩]
   rcases hn with ⟨j, h4, h5, h6⟩ | hn
   ·obtain rfl | rfl : j = 1 ∨ j = 2 := by omega
    ·exact absurd k.1 (bad _ h6)
    ·exact absurd k.2 (bad _ h6)
   ·simp only [acc, Nat.reduceAdd] at hn
    split
    ·exfalso; omega
    ·rfl
  ·rw [if_neg (fun h => k h.2), if_neg (by omega)]
 ·unfold decodeN
  rw [if_neg (by omega), if_neg (by omega), if_neg (by omega)]
  by_cases k : (1 < s.length - a ∧ by' s (a + 1) / 64 = 2) ∧ (2 < s.length - a ∧ by' s (a + 2) / 64 = 2) ∧ (3 < s.length - a ∧ by' s (a + 3) / 64 = 2)
  ·rw [if_pos ⟨h3, k⟩]
   rcases hn with ⟨j, h4, h5, h6⟩ | hn
   ·obtain rfl | rfl | rfl : j = 1 ∨ j = 2 ∨ j = 3 := by omega
    ·exact absurd k.1 (bad _ h6)
    ·exact absurd k.2.1 (bad _ h6)
    ·exact absurd k.2.2 (bad _ h6)
   ·simp only [acc, Nat.reduceAdd] at hn
    split
    ·exfalso; omega
    ·rfl
  ·rw [if_neg (fun h => k h.2)]
theorem Cls.ascii {s : List UInt8} {a : Nat} (h : by' s a < 128) : dc (s.drop a) = (by' s a, 1) := by
 have hd : dc (s.drop a) = decodeN (s.length - a) (by' s a) (by' s (a + 1)) (by' s (a + 2)) (by' s (a + 3)) := by unfold dc; simp only [by_drop, List.length_drop, Nat.add_zero]
 rw [hd]; unfold decodeN; rw [if_pos h]
theorem Cls.none {s : List UInt8} {a : Nat} (h : (128 ≤ by' s a ∧ by' s a < 192) ∨ 248 ≤ by' s a) : dc (s.drop a) = (65533, 1) := by
 have hd : dc (s.drop a) = decodeN (s.length - a) (by' s a) (by' s (a + 1)) (by' s (a + 2)) (by' s (a + 3)) := by unfold dc; simp only [by_drop, List.length_drop, Nat.add_zero]
 rw [hd]; unfold decodeN; rw [if_neg (by omega), if_neg (by omega), if_neg (by omega), if_neg (by omega)]
def RuneQ (s : List UInt8) (a : Nat) (H : AHeap) (v : AV) (H' : AHeap) : Prop := (∃ (r : Int) (n : Nat), v = .tuple [.d (.int .i64 r), intD n] ∧ max 1 n = (dc (s.drop a)).2 ∧ n ≤ 4 ∧ decide (n = 0) = decide (dc (s.drop a) = (65533, 1))) ∧ H' = H
end Go.Proofs.YtmhmjlfajlpabaaDoor
set_option maxRecDepth 100000
namespace Go.Proofs.YtmhmjlfajlpabaaDoor
open Go Go.Abs Go.Lib
def BadQ (s : List UInt8) (H : AHeap) (v : AV) (H' : AHeap) : Prop := (∃ r : Int, v = intD r ∧ decide (r < 0) = vB s) ∧ H' = H
theorem nodup_step {ks : List Tx} {i : Nat} {s : Tx} (h : ks[i]? = some s) (hn : (ks.take i).Nodup) (hs : s ∉ ks.take i) : (ks.take (i + 1)).Nodup := by
 rw [List.take_add_one, h]
 refine List.nodup_append.2 ⟨hn, by simp, fun a ha b hb e => ?_⟩
 have : b = s := by simpa using hb
 subst this
 subst e
 exact hs ha
theorem nodup_no {ks : List Tx} {i j : Nat} {s : Tx} (h : ks[i]? = some s) (h2 : ks[j]? = some s) (hj : j < i) : namedB ks = false := by
 unfold namedB
 have : ¬ ks.Nodup := fun hn => by
  have h3 : ks[j]? = ks[i]? := by rw [h, h2]
  obtain ⟨hi, hi2⟩ := List.getElem?_eq_some_iff.1 h
  have := (List.getElem?_inj (by omega) hn).1 h3
  omega
 rw [decide_eq_false this, Bool.and_false]
def Sh (j : J) : Prop := j.t.length ≤ 100000000000 ∧ j.ks.length ≤ 100000000000 ∧ j.l.length ≤ 100000000000 ∧ ∀ s ∈ j.ks, s.length ≤ 100000000000
theorem eq0 (n m : Int) : (n == m) = decide (n = m) := rfl
theorem eqT (s t : Tx) : (s == t) = decide (s = t) := by
 rw [Bool.eq_iff_iff]; simp
theorem sh_of {j : J} (h : wt j ≤ 100000000000) : Sh j := ⟨by have := wt_t j; omega, by have := wt_ks j; omega, by have := wt_l j; omega, fun s hs => by have := wt_key hs; omega⟩
end Go.Proofs.YtmhmjlfajlpabaaDoor
set_option maxRecDepth 100000
namespace Go.Proofs.YtmhmjlfajlpabaaDoor
open Go Go.Abs Go.Lib
end Go.Proofs.YtmhmjlfajlpabaaDoor
namespace Go.Proofs.YtmhmjlfajlpabaaDoor
open Go Go.Abs
/-! What is small. -/
def bigB (j : J) (n : Int) : Bool := decide (n < 1) || decide (2000 < j.t.length) || decide (200 < j.ks.length) || decide (2000 < j.l.length)
def leftI : Nat → J → Int → Int
 | 0, _, _ => -1
 | d + 1, j, n => if bigB j n = true then -1 else if (j.ks.all fun s => decide (s.length ≤ 2000)) = false then -1 else j.l.foldl (fun n k => if n < 0 then n else leftI d k n) (n - 1)
theorem fold_neg {f : J → Int → Int} : ∀ (l : List J) (n : Int), n < 0 → l.foldl (fun n k => if n < 0 then n else f k n) n = n
 | [], _, _ => rfl
 | a :: l, n, h => by rw [List.foldl_cons, if_pos h]; exact fold_neg l n h
theorem left_step (d : Nat) (l : List J) (i : Nat) (x : J) (h : l[i]? = some x) (n : Int) :
  (l.take (i + 1)).foldl (fun n k => if n < 0 then n else leftI d k n) n = (if (l.take i).foldl (fun n k => if n < 0 then n else leftI d k n) n < 0 then (l.take i).foldl (fun n k => if n < 0 then n else leftI d k n) n else leftI d x ((l.take i).foldl (fun n k => if n < 0 then n else leftI d k n) n)) := by
 rw [List.take_add_one, h, List.foldl_append]; rfl
theorem fold_cut (d : Nat) (l : List J) (i : Nat) (n : Int) (h : (l.take i).foldl (fun n k => if n < 0 then n else leftI d k n) n < 0) : l.foldl (fun n k => if n < 0 then n else leftI d k n) n = (l.take i).foldl (fun n k => if n < 0 then n else leftI d k n) n := by
 conv => lhs; rw [← List.take_append_drop i l]
 rw [List.foldl_append, fold_neg _ _ h]
theorem left_small : ∀ (d : Nat) (j : J) (n : Int), n ≤ 2000 → -1 ≤ n → -1 ≤ leftI d j n ∧ leftI d j n ≤ 2000
 | 0, _, _, _, _ => by unfold leftI; omega
 | d + 1, j, n, h1, h2 => by
  unfold leftI
  split
  ·omega
  split
  ·omega
  ·rename_i hb _
   have hn : 1 ≤ n := by
    simp only [bigB, Bool.or_eq_true, decide_eq_true_eq, not_or] at hb; omega
   have : ∀ (l : List J) (n : Int), n ≤ 2000 → -1 ≤ n → -1 ≤ l.foldl (fun n k => if n < 0 then n else leftI d k n) n ∧ l.foldl (fun n k => if n < 0 then n else leftI d k n) n ≤ 2000 := by
    intro l
    induction l with
    | nil => intro n a b; exact ⟨b, a⟩
    | cons x l ih =>
     intro n a b
     rw [List.foldl_cons]
     split
     ·exact ih _ a b
     ·exact ih _ (left_small d x n a b).2 (left_small d x n a b).1
   exact this _ _ (by omega) (by omega)
theorem keys_wt : ∀ ks : List Tx, (ks.all fun s => decide (s.length ≤ 2000)) = true → (ks.map fun k => k.length + 1).sum ≤ 2001 * ks.length
 | [], _ => Nat.zero_le _
 | k :: ks, h => by
  simp only [List.all_cons, Bool.and_eq_true, decide_eq_true_eq] at h
  have := keys_wt ks h.2
  simp only [List.map_cons, List.sum_cons, List.length_cons]
  omega
theorem left_wt : ∀ (d : Nat) (j : J) (n : Int), 0 ≤ leftI d j n → (wt j : Int) + 500000 * leftI d j n ≤ 500000 * n
 | 0, _, _, h => by unfold leftI at h; omega
 | d + 1, j, n, h => by
  have hu : leftI (d + 1) j n = if bigB j n = true then -1 else if (j.ks.all fun s => decide (s.length ≤ 2000)) = false then -1 else j.l.foldl (fun n k => if n < 0 then n else leftI d k n) (n - 1) := by
   conv => lhs; unfold leftI
  rw [hu] at h ⊢
  split at h
  ·omega
  split at h
  ·omega
  ·rename_i hb hk
   rw [if_neg hb, if_neg hk]
   simp only [bigB, Bool.or_eq_true, decide_eq_true_eq, not_or, Int.not_lt, Nat.not_lt] at hb
   have hk2 := keys_wt j.ks (by simpa using hk)
   have key : ∀ (l : List J) (n : Int), 0 ≤ l.foldl (fun n k => if n < 0 then n else leftI d k n) n → (wts l : Int) + 500000 * l.foldl (fun n k => if n < 0 then n else leftI d k n) n ≤ 500000 * n := by
    intro l
    induction l with
    | nil => intro n a; simp [wts]
    | cons x l ih =>
     intro n a
     rw [List.foldl_cons] at a ⊢
     by_cases hn : n < 0
     ·rw [if_pos hn, fold_neg l n hn] at a; omega
     ·rw [if_neg hn] at a ⊢
      have h2 := ih _ a
      have hx : 0 ≤ leftI d x n := by
       by_cases hx : leftI d x n < 0
       ·rw [fold_neg l _ hx] at a; omega
       ·omega
      have h1 := left_wt d x n hx
      rw [wts_cons]
      omega
   have := key j.l (n - 1) h
   rw [wt_eq]
   omega
theorem few_wt {j : J} (h : 0 ≤ leftI 30 j 2000) : wt j ≤ 1000000000 := by
 have := left_wt 30 j 2000 h
 omega
end Go.Proofs.YtmhmjlfajlpabaaDoor
set_option maxRecDepth 100000
namespace Go.Proofs.YtmhmjlfajlpabaaDoor
open Go Go.Abs Go.Lib
theorem left_ev : ∀ (d : Nat) (lim : Nat) (H : AHeap) (j : J) (n : Int), d ≤ 1000 → -1 ≤ n → n ≤ 2000 → Ev (envN code primsF) 31 lim [.d j.d, .d (.int .i64 n), intD d] H (.d (.int .i64 (leftI d j n))) H
 | 0, lim, H, j, n, _, _, _ => by
  refine Fn.ev ?_
  refine Fn_of (pn rfl) rfl (show code 31 = some c31 from rfl) rfl ?_; simp only [List.length_cons,List.length_nil,List.cons_append,List.nil_append,simprocAttr]
  have hjd := jd j
  have hr : leftI 0 j n = -1 := by unfold leftI; rfl
  have f0 : (((0 : Nat) : Int) < 1) = True := eq_true (by omega)
  rw [hr]
  by_cases h1 : n < 1
  ·have f1 : (n < 1) = True := eq_true h1
   refine w_r (j_ hjd (j_ f0 f1)) ?_
   exact ans_cut rfl rfl ⟨rfl, rfl⟩
  ·have f1 : (n < 1) = False := eq_false h1
   refine w_r (j_ hjd (j_ f0 f1)) ?_
   exact ans_cut rfl rfl ⟨rfl, rfl⟩
 | d + 1, lim, H, j, n, hd, hn1, hn2 => by
  refine Fn.ev ?_
  refine Fn_of (pn rfl) rfl (show code 31 = some c31 from rfl) rfl ?_; simp only [List.length_cons,List.length_nil,List.cons_append,List.nil_append,simprocAttr]
  have hjd := jd j
  obtain ⟨K, hK⟩ : ∃ K, H ++ [AObj.cells (jC j)] = K := ⟨_, rfl⟩
  have gK : K[H.length]? = some (.cells (jC j)) := by rw [← hK]; exact get_last _ _
  have f0 : (((d + 1 : Nat) : Int) < 1) = False := eq_false (by omega)
  have hr : leftI (d + 1) j n = if bigB j n = true then -1 else if (j.ks.all fun s => decide (s.length ≤ 2000)) = false then -1 else j.l.foldl (fun n k => if n < 0 then n else leftI d k n) (n - 1) := by
   conv => lhs; unfold leftI
  rw [hr]
  (iterate 2 refine w_s (j_ hjd hK) ?_)
  by_cases h1 : n < 1
  ·have f1 : (n < 1) = True := eq_true h1
   rw [if_pos (by simp [bigB, h1])]
   refine w_r (j_ gK (j_ f0 f1)) ?_
   exact ans_cut rfl rfl ⟨rfl, rfl⟩
  have f1 : (n < 1) = False := eq_false h1
  by_cases h2 : 2000 < j.t.length
  ·have f2 : ((j.t.length : Int) > 2000) = True := eq_true (by omega)
   rw [if_pos (by simp [bigB, h2])]
   refine w_r (j_ gK (j_ f0 (j_ f1 f2))) ?_
   exact ans_cut rfl rfl ⟨rfl, rfl⟩
  have f2 : ((j.t.length : Int) > 2000) = False := eq_false (by omega)
  by_cases h3 : 200 < j.ks.length
  ·have f3 : ((j.ks.length : Int) > 200) = True := eq_true (by omega)
   rw [if_pos (by simp [bigB, h3])]
   refine w_r (j_ gK (j_ f0 (j_ f1 (j_ f2 (j_ f3 (@List.length_map.{0,0})))))) ?_
   exact ans_cut rfl rfl ⟨rfl, rfl⟩
  have f3 : ((j.ks.length : Int) > 200) = False := eq_false (by omega)
  by_cases h4 : 2000 < j.l.length
  ·have f4 : ((j.l.length : Int) > 2000) = True := eq_true (by omega)
   rw [if_pos (by simp [bigB, h4])]
   refine w_r (j_ gK (j_ f0 (j_ f1 (j_ f2 (j_ f3 (j_ f4 (@List.length_map.{0,0}))))))) ?_
   exact ans_cut rfl rfl ⟨rfl, rfl⟩
  have f4 : ((j.l.length : Int) > 2000) = False := eq_false (by omega)
  have w0 : IntKind.i64.wrap (n - 1) = n - 1 := w64 (by omega) (by omega)
  have hb : ¬ bigB j n = true := by simp only [bigB, Bool.or_eq_true, decide_eq_true_eq]; omega
  rw [if_neg hb]
  refine w_r (j_ gK (j_ f0 (j_ f1 (j_ f2 (j_ f3 (j_ f4 (j_ w0 (@List.length_map.{0,0})))))))) ?_
  refine W_lp (fun k st => ∃ i : Nat, i ≤ j.ks.length ∧ k = j.ks.length - i ∧ ((j.ks.take i).all fun s => decide (s.length ≤ 2000)) = true ∧ ∃ x : Nat → AV, st = ⟨[x 0, .d (.int .i64 (n - 1)), intD (d + 1 : Nat), x 3, x 4, x 5, x 6, intD 0, .ptr H.length 0, intD i, x 10, x 11, x 12, x 13], K⟩) ?_ _ _ ⟨0, Nat.zero_le _, rfl, rfl, ex_st _ _ _ rfl⟩
  rintro k _ ⟨i, hi, rfl, ha, x, rfl⟩
  by_cases t0 : i < j.ks.length
  ·have f5 : ((i : Int) < (j.ks.length : Int)) = True := eq_true (by omega)
   have w1 : IntKind.i64.wrap ((i : Int) + 1) = ((i + 1 : Nat) : Int) := wsucc (by omega)
   obtain ⟨s, hs⟩ : ∃ s, j.ks[i]? = some s := ⟨_, List.getElem?_eq_getElem t0⟩
   have hc : (D.str s).cells = [D.str s] := rfl
   have hst := all_cut hs fun s => decide (s.length ≤ 2000)
   rw [ha, Bool.true_and] at hst
   by_cases h5 : s.length ≤ 2000
   ·have f6 : ((s.length : Int) > 2000) = False := eq_false (by omega)
    rw [decide_eq_true h5] at hst
    refine w_r (j_ gK (j_ f5 (j_ f6 (j_ hs (j_ hc (j_ w1 (@List.length_map.{0,0}))))))) ?_
    exact ⟨j.ks.length - (i + 1), by omega, i + 1, t0, rfl, hst, ex_st _ _ _ rfl⟩
   ·have f6 : ((s.length : Int) > 2000) = True := eq_true (by omega)
    rw [if_pos (all_no hs (by simpa using h5))]
    refine w_r (j_ gK (j_ f5 (j_ f6 (j_ hs (j_ hc (@List.length_map.{0,0})))))) ?_
    exact ans_cut rfl rfl ⟨rfl, rfl⟩
  ·obtain rfl : i = j.ks.length := by omega
   have f5 : ((j.ks.length : Int) < (j.ks.length : Int)) = False := eq_false (by omega)
   rw [List.take_length] at ha
   rw [if_neg (by rw [ha]; simp)]
   refine w_r (j_ gK (j_ f5 (@List.length_map.{0,0}))) ?_
   refine W_lp (fun k st => ∃ (i : Nat) (m : Int), i ≤ j.l.length ∧ k = j.l.length - i ∧ (j.l.take i).foldl (fun n k => if n < 0 then n else leftI d k n) (n - 1) = m ∧ -1 ≤ m ∧ m ≤ 2000 ∧ ∃ x : Nat → AV, st = ⟨[x 0, .d (.int .i64 m), intD (d + 1 : Nat), x 3, x 4, x 5, x 6, intD 0, .ptr H.length 0, x 9, intD i, x 11, x 12, x 13], K⟩) ?_ _ _ ⟨0, n - 1, Nat.zero_le _, rfl, rfl, by omega, by omega, ex_st _ _ _ rfl⟩
   rintro k _ ⟨i, m, hi, rfl, hm, m1, m2, x, rfl⟩
   by_cases t0 : i < j.l.length
   ·have f5 : ((i : Int) < (j.l.length : Int)) = True := eq_true (by omega)
    have w1 : IntKind.i64.wrap ((i : Int) + 1) = ((i + 1 : Nat) : Int) := wsucc (by omega)
    by_cases h5 : m < 0
    ·have f6 : (m ≥ 0) = False := eq_false (by omega)
     rw [fold_cut d j.l i (n - 1) (by rw [hm]; exact h5), hm]
     refine w_r (j_ gK (j_ f5 (j_ f6 (@List.length_map.{0,0})))) ?_
     exact ans_cut rfl rfl ⟨rfl, rfl⟩
    ·have f6 : (m ≥ 0) = True := eq_true (by omega)
     obtain ⟨y, hy⟩ : ∃ y, j.l[i]? = some y := ⟨_, List.getElem?_eq_getElem t0⟩
     have hyd := jd y
     have hst := left_step d j.l i y hy (n - 1)
     rw [hm, if_neg h5] at hst
     have w2 : IntKind.i64.wrap (((d + 1 : Nat) : Int) - 1) = (d : Int) := by rw [w64 (by omega) (by omega)]; omega
     have hg := left_ev d H.length K y m (by omega) m1 m2
     simp only [hyd] at hg
     obtain ⟨r1, r2⟩ := left_small d y m m2 m1
     refine w_r (j_ gK (j_ f5 (j_ f6 (@List.length_map.{0,0})))) ?_
     refine W_region ?_; apply WO_take 6; (focus (intro _; simp only [zz,simprocAttr,gK, hy, hyd, b_sub, w2]; (first | done | with_reducible exact rfl))); simp only [List.drop_succ_cons,List.drop_zero]; refine WO_call ?_; simp only [zz,simprocAttr]; refine Ev.fn hg ?_
     (apply WO_end; (focus (intro _; simp only [zz,simprocAttr]; (first | done | with_reducible exact rfl)))) <;> (try simp only [zp,simprocAttr])
     refine w_r w1 ?_
     exact ⟨j.l.length - (i + 1), by omega, i + 1, _, t0, rfl, hst, r1, r2, ex_st _ _ _ rfl⟩
   ·obtain rfl : i = j.l.length := by omega
    have f5 : ((j.l.length : Int) < (j.l.length : Int)) = False := eq_false (by omega)
    rw [List.take_length] at hm
    rw [hm]
    refine w_r (j_ gK (j_ f5 (@List.length_map.{0,0}))) ?_
    exact ans_cut rfl rfl ⟨rfl, rfl⟩
theorem small_ev (lim : Nat) (H : AHeap) (j : J) : Ev (envN code primsF) 16 lim [.d j.d] H (boolD (decide (0 ≤ leftI 30 j 2000))) H := by
 refine Fn.ev ?_
 refine Fn_of (pn rfl) rfl (show code 16 = some c16 from rfl) rfl ?_; simp only [List.length_cons,List.length_nil,List.cons_append,List.nil_append,simprocAttr]
 have hjd := jd j
 obtain ⟨K, hK⟩ : ∃ K, H ++ [AObj.cells (jC j)] = K := ⟨_, rfl⟩
 have gK : K[H.length]? = some (.cells (jC j)) := by rw [← hK]; exact get_last _ _
 have he : Ev (envN code primsF) 31 H.length [.d j.d, intD 2000, intD 30] K (.d (.int .i64 (leftI 30 j 2000))) K := left_ev 30 H.length K j 2000 (by omega) (by omega) (by omega)
 simp only [hjd] at he
 have hge : (leftI 30 j 2000 ≥ 0) = (0 ≤ leftI 30 j 2000) := rfl
 generalize leftI 30 j 2000 = m at *
 (iterate 2 refine w_s (j_ hjd hK) ?_)
 (iterate 1 refine w_s trivial ?_)
 by_cases h : 0 ≤ m
 ·have f1 : (m ≥ 0) = True := eq_true h
  rw [decide_eq_true h]
  refine w_1 he (j_ gK f1) ?_
  refine w_r trivial ?_
  exact ans_cut rfl rfl ⟨rfl, rfl⟩
 ·have f1 : (m ≥ 0) = False := eq_false h
  rw [decide_eq_false h]
  refine w_1 he (j_ gK f1) ?_
  refine w_r trivial ?_
  exact ans_cut rfl rfl ⟨rfl, rfl⟩
end Go.Proofs.YtmhmjlfajlpabaaDoor
namespace Go.Proofs.YtmhmjlfajlpabaaDoor
open Go Go.Abs
def hexC (n : Nat) : UInt8 := ([48, 49, 50, 51, 52, 53, 54, 55, 56, 57, 97, 98, 99, 100, 101, 102] : Tx).getD n 0
def escB (c : UInt8) : Tx :=
 if c = 34 ∨ c = 92 then [92, c]
 else if c = 8 then [92, 98]
 else if c = 9 then [92, 116]
 else if c = 10 then [92, 110]
 else if c = 12 then [92, 102]
 else if c = 13 then [92, 114]
 else if c.toNat < 32 then [92, 117, 48, 48, hexC (c.toNat / 16), hexC (c.toNat % 16)]
 else [c]
def quoteB (s : Tx) : Tx := 34 :: (s.flatMap escB ++ [34])
def commas : List Tx → Tx
 | [] => []
 | [a] => a
 | a :: b :: l => a ++ 44 :: commas (b :: l)
def pairB (k e : Tx) : Tx := quoteB k ++ 58 :: e
mutual
def encJ : J → Tx
 | .mk k n t ks l =>
  if k = 1 then (if n = 1 then [116, 114, 117, 101] else [102, 97, 108, 115, 101])
  else if k = 2 then Lib.itoa n
  else if k = 3 then quoteB t
  else if k = 4 then 91 :: (commas (encJs l) ++ [93])
  else if k = 5 then 123 :: (commas (List.zipWith pairB ks (encJs l)) ++ [125])
  else [110, 117, 108, 108]
def encJs : List J → List Tx
 | [] => []
 | a :: l => encJ a :: encJs l
end
theorem encJs_map : ∀ l : List J, encJs l = l.map encJ
 | [] => by unfold encJs; rfl
 | a :: l => by unfold encJs; rw [encJs_map l]; rfl
theorem encJ_eq (j : J) : encJ j = if j.k = 1 then (if j.n = 1 then [116, 114, 117, 101] else [102, 97, 108, 115, 101])
  else if j.k = 2 then Lib.itoa j.n
  else if j.k = 3 then quoteB j.t
  else if j.k = 4 then 91 :: (commas (j.l.map encJ) ++ [93])
  else if j.k = 5 then 123 :: (commas (List.zipWith pairB j.ks (j.l.map encJ)) ++ [125])
  else [110, 117, 108, 108] := by
 obtain ⟨k, n, t, ks, l⟩ := j
 conv => lhs; unfold encJ
 rw [encJs_map]; rfl
/-! How the program writes: it stops where there are too many bytes. -/
def wList (w : Tx → J → Tx) : Bool → Tx → List J → Tx
 | _, b, [] => b
 | first, b, j :: l => wList w false (w (if first then b else b ++ [44]) j) l
def wMap (w : Tx → J → Tx) (ks : List Tx) (l : List J) : Bool → Tx → List Nat → Tx
 | _, b, [] => b
 | first, b, i :: P => wMap w ks l false (w ((if first then b else b ++ [44]) ++ quoteB (ks.getD i []) ++ [58]) (l.getD i J.zero)) P
def writeS : Nat → Tx → J → Tx
 | 0, b, _ => b
 | f + 1, b, j =>
  if 16384 < b.length then b
  else if j.k = 1 then b ++ (if j.n = 1 then [116, 114, 117, 101] else [102, 97, 108, 115, 101])
  else if j.k = 2 then b ++ Lib.itoa j.n
  else if j.k = 3 then b ++ quoteB j.t
  else if j.k = 4 then wList (writeS f) true (b ++ [91]) j.l ++ [93]
  else if j.k = 5 then wMap (writeS f) j.ks j.l true (b ++ [123]) (byKeys j.ks) ++ [125]
  else b ++ [110, 117, 108, 108]
theorem wList_snoc (w : Tx → J → Tx) : ∀ (l : List J) (first : Bool) (b : Tx) (j : J), wList w first b (l ++ [j]) = w (if first && l.isEmpty then wList w first b l else wList w first b l ++ [44]) j
 | [], first, b, j => by cases first <;> rfl
 | a :: l, first, b, j => by
  rw [List.cons_append]
  show wList w false (w (if first = true then b else b ++ [44]) a) (l ++ [j]) = _
  rw [wList_snoc w l]
  simp only [Bool.false_and, List.isEmpty_cons, Bool.and_false]
  rfl
theorem wMap_snoc (w : Tx → J → Tx) (ks : List Tx) (l : List J) : ∀ (P : List Nat) (first : Bool) (b : Tx) (i : Nat), wMap w ks l first b (P ++ [i]) = w ((if first && P.isEmpty then wMap w ks l first b P else wMap w ks l first b P ++ [44]) ++ quoteB (ks.getD i []) ++ [58]) (l.getD i J.zero)
 | [], first, b, j => by cases first <;> rfl
 | a :: P, first, b, j => by
  rw [List.cons_append]
  show wMap w ks l false _ (P ++ [j]) = _
  rw [wMap_snoc w ks l P]
  simp only [Bool.false_and, List.isEmpty_cons, Bool.and_false]
  rfl
/-! How long what is written is. -/
theorem escB_len (c : UInt8) : (escB c).length ≤ 6 := by
 unfold escB; (repeat' split) <;> simp
theorem flat_len : ∀ s : Tx, (s.flatMap escB).length ≤ 6 * s.length
 | [] => by simp
 | c :: s => by
  have := flat_len s
  have := escB_len c
  rw [List.flatMap_cons, List.length_append, List.length_cons]; omega
theorem quoteB_len (s : Tx) : (quoteB s).length ≤ 2 + 6 * s.length := by
 have := flat_len s
 unfold quoteB
 simp only [List.length_cons, List.length_append, List.length_nil]
 omega
theorem nDigits_le : ∀ (k u : Nat), u < 10 ^ (k + 1) → Lib.nDigits u ≤ k + 1
 | 0, u, h => by rw [Lib.nDigits_small (by simpa using h)]; exact Nat.le_refl _
 | k + 1, u, h => by
  by_cases h1 : u < 10
  ·rw [Lib.nDigits_small h1]; omega
  ·rw [Lib.nDigits_big h1]
   have := nDigits_le k (u / 10) (by rw [Nat.pow_succ] at h; omega)
   omega
theorem itoa_len {n : Int} (h1 : -9007199254740991 ≤ n) (h2 : n ≤ 9007199254740991) : (Lib.itoa n).length ≤ 20 := by
 unfold Lib.itoa
 split
 ·rw [List.length_cons, Lib.decDigits_length]
  have := nDigits_le 17 n.natAbs (by omega)
  omega
 ·rw [Lib.decDigits_length]
  have := nDigits_le 17 n.toNat (by omega)
  omega
theorem wList_ge {w : Tx → J → Tx} (hw : ∀ b j, b.length ≤ (w b j).length) : ∀ (l : List J) (first : Bool) (b : Tx), b.length ≤ (wList w first b l).length
 | [], _, _ => Nat.le_refl _
 | j :: l, first, b => by
  unfold wList
  refine Nat.le_trans ?_ (wList_ge hw l _ _)
  refine Nat.le_trans ?_ (hw _ _)
  split <;> simp
theorem wMap_ge {w : Tx → J → Tx} (hw : ∀ b j, b.length ≤ (w b j).length) {ks : List Tx} {l : List J} : ∀ (P : List Nat) (first : Bool) (b : Tx), b.length ≤ (wMap w ks l first b P).length
 | [], _, _ => Nat.le_refl _
 | j :: P, first, b => by
  unfold wMap
  refine Nat.le_trans ?_ (wMap_ge hw P _ _)
  refine Nat.le_trans ?_ (hw _ _)
  split <;> simp <;> omega
theorem writeS_ge : ∀ (f : Nat) (b : Tx) (j : J), b.length ≤ (writeS f b j).length
 | 0, _, _ => Nat.le_refl _
 | f + 1, b, j => by
  unfold writeS
  (repeat' split) <;> try (simp; done)
  ·have := wList_ge (writeS_ge f) j.l true (b ++ [91])
   simp only [List.length_append, List.length_singleton] at this ⊢; omega
  ·have := wMap_ge (writeS_ge f) (ks := j.ks) (l := j.l) (byKeys j.ks) true (b ++ [123])
   simp only [List.length_append, List.length_singleton] at this ⊢; omega
def sameB : Nat → J → J → Bool
 | 0, _, _ => false
 | f + 1, a, b => decide (a.k = b.k) && decide (a.n = b.n) && decide (a.t = b.t) && decide (a.ks = b.ks) && decide (a.l.length = b.l.length) && (List.zipWith (sameB f) a.l b.l).all id
end Go.Proofs.YtmhmjlfajlpabaaDoor
namespace Go.Proofs.YtmhmjlfajlpabaaDoor
open Go Go.Abs
theorem perm_sum {l m : List Nat} (h : l.Perm m) : l.sum = m.sum := by
 induction h with
 | nil => rfl
 | cons x _ ih => simp only [List.sum_cons, ih]
 | swap x y l => simp only [List.sum_cons]; omega
 | trans _ _ h1 h2 => exact h1.trans h2
theorem range_getD {α : Type} (l : List α) (d : α) : (List.range l.length).map (fun i => l.getD i d) = l := by
 apply List.ext_getElem
 ·simp
 ·intro i h1 h2
  simp [List.getD, h2]
theorem getD_map {α β : Type} (f : α → β) (l : List α) {i : Nat} (h : i < l.length) (d : α) (e : β) : (l.map f).getD i e = f (l.getD i d) := by
 simp [List.getD, h]
theorem wList_le {w : Tx → J → Tx} : ∀ (l : List J) (first : Bool) (b : Tx), (∀ y ∈ l, ∀ b, (w b y).length + 1 ≤ b.length + 32 * wt y) → (wList w first b l).length ≤ b.length + 32 * wts l
 | [], _, b, _ => by simp [wList]
 | j :: l, first, b, h => by
  unfold wList
  have h1 := wList_le l false (w (if first = true then b else b ++ [44]) j) fun y hy => h y (List.mem_cons_of_mem _ hy)
  have h2 := h j (by simp) (if first = true then b else b ++ [44])
  have h3 : (if first = true then b else b ++ [44]).length ≤ b.length + 1 := by split <;> simp
  rw [wts_cons]; omega
theorem wMap_le {w : Tx → J → Tx} {ks : List Tx} {l : List J} : ∀ (P : List Nat) (first : Bool) (b : Tx), (∀ i ∈ P, ∀ b, (w b (l.getD i J.zero)).length + 1 ≤ b.length + 32 * wt (l.getD i J.zero)) →
  (wMap w ks l first b P).length ≤ b.length + (P.map fun i => 32 * wt (l.getD i J.zero) + 6 * (ks.getD i []).length + 4).sum
 | [], _, b, _ => by simp [wMap]
 | j :: P, first, b, h => by
  unfold wMap
  have h1 := wMap_le (ks := ks) P false (w ((if first = true then b else b ++ [44]) ++ quoteB (ks.getD j []) ++ [58]) (l.getD j J.zero)) fun y hy => h y (List.mem_cons_of_mem _ hy)
  have h2 := h j (by simp) ((if first = true then b else b ++ [44]) ++ quoteB (ks.getD j []) ++ [58])
  have h3 : (if first = true then b else b ++ [44]).length ≤ b.length + 1 := by split <;> simp
  have h4 := quoteB_len (ks.getD j [])
  simp only [List.length_append, List.length_singleton] at h2
  rw [List.map_cons, List.sum_cons]; omega
theorem sum_pts : ∀ (f : J → Nat) (g : Tx → Nat) (ks : List Tx) (l : List J) (P : List Nat), (P.map fun i => 32 * f (l.getD i J.zero) + 6 * g (ks.getD i []) + 4).sum = 32 * (P.map fun i => f (l.getD i J.zero)).sum + 6 * (P.map fun i => g (ks.getD i [])).sum + 4 * P.length
 | f, g, ks, l, [] => rfl
 | f, g, ks, l, i :: P => by
  have := sum_pts f g ks l P
  simp only [List.map_cons, List.sum_cons, List.length_cons, this]; omega
theorem wts_sum : ∀ l : List J, (l.map wt).sum = wts l
 | [] => rfl
 | a :: l => by rw [List.map_cons, List.sum_cons, wts_sum l, wts_cons]
theorem len_sum : ∀ ks : List Tx, (ks.map List.length).sum + ks.length = (ks.map fun k => k.length + 1).sum
 | [] => rfl
 | a :: l => by have := len_sum l; simp only [List.map_cons, List.sum_cons, List.length_cons] at *; omega
theorem shaped_num {j : J} (h : shapedB j = true) (h2 : j.k = 2) : -9007199254740991 ≤ j.n ∧ j.n ≤ 9007199254740991 := by
 unfold shapedB at h
 rw [if_neg (by omega), if_neg (by omega), if_pos h2] at h
 simp only [Bool.and_eq_true, decide_eq_true_eq] at h
 exact ⟨h.1.2, h.2⟩
theorem shaped_map {j : J} (h : shapedB j = true) (h5 : j.k = 5) : j.ks.length = j.l.length ∧ j.ks.Nodup := by
 unfold shapedB at h
 rw [if_neg (by omega), if_neg (by omega), if_neg (by omega), if_neg (by omega), if_neg (by omega), if_pos h5] at h
 simp only [Bool.and_eq_true, decide_eq_true_eq, namedB] at h
 exact ⟨h.1.1.1, h.2.2⟩
theorem writeS_le : ∀ (f : Nat) (b : Tx) (j : J), goodB f j = true → (writeS f b j).length + 1 ≤ b.length + 32 * wt j
 | 0, _, _, h => by cases h
 | f + 1, b, j, h => by
  obtain ⟨hs, ha⟩ := Bool.and_eq_true_iff.1 (show (shapedB j && j.l.all (goodB f)) = true from h)
  have hall : ∀ y ∈ j.l, goodB f y = true := fun y hy => List.all_eq_true.1 ha y hy
  have hw := wt_eq j
  unfold writeS
  split
  ·omega
  split
  ·rw [List.length_append]; split <;> simp <;> omega
  split
  ·rename_i h2
   obtain ⟨r1, r2⟩ := shaped_num hs h2
   have := itoa_len r1 r2
   rw [List.length_append]; omega
  split
  ·have := quoteB_len j.t
   rw [List.length_append]; omega
  split
  ·have := wList_le (w := writeS f) j.l true (b ++ [91]) fun y hy b => writeS_le f b y (hall y hy)
   simp only [List.length_append, List.length_singleton] at this ⊢; omega
  split
  ·rename_i h5
   obtain ⟨hl, hd⟩ := shaped_map hs h5
   have h1 := wMap_le (w := writeS f) (ks := j.ks) (l := j.l) (byKeys j.ks) true (b ++ [123]) fun i hi b => writeS_le f b _ (hall _ (by
    have := byKeys_lt hi
    simp only [List.getD, List.getElem?_eq_getElem (show i < j.l.length by omega), Option.getD_some]
    exact List.getElem_mem _))
   rw [sum_pts wt List.length, perm_sum ((byKeys_perm j.ks).map fun i => wt (j.l.getD i J.zero)), perm_sum ((byKeys_perm j.ks).map fun i => (j.ks.getD i []).length), byKeys_length] at h1
   have e1 : (List.range j.ks.length).map (fun i => wt (j.l.getD i J.zero)) = j.l.map wt := by
    rw [hl, show (fun i => wt (j.l.getD i J.zero)) = wt ∘ (fun i => j.l.getD i J.zero) from rfl, ← List.map_map, range_getD]
   have e2 : (List.range j.ks.length).map (fun i => (j.ks.getD i []).length) = j.ks.map List.length := by
    rw [show (fun i => (j.ks.getD i []).length) = List.length ∘ (fun i => j.ks.getD i []) from rfl, ← List.map_map, range_getD]
   rw [e1, e2, wts_sum] at h1
   have h3 := len_sum j.ks
   simp only [List.length_append, List.length_singleton] at h1 ⊢
   omega
  ·simp only [List.length_append, List.length_cons, List.length_nil]; omega
def Rel (r e : Tx) : Prop := r = e ∨ (16384 < r.length ∧ 16384 < e.length)
theorem Rel.app {r e : Tx} (h : Rel r e) (x : Tx) : Rel (r ++ x) (e ++ x) := by
 rcases h with rfl | ⟨h1, h2⟩
 ·exact .inl rfl
 ·exact .inr ⟨by rw [List.length_append]; omega, by rw [List.length_append]; omega⟩
def tailC (E : List Tx) : Tx := E.flatMap fun e => 44 :: e
theorem commas_tail : ∀ (a : Tx) (E : List Tx), commas (a :: E) = a ++ tailC E
 | a, [] => by simp [commas, tailC]
 | a, b :: E => by
  show a ++ 44 :: commas (b :: E) = a ++ tailC (b :: E)
  rw [commas_tail b E]; simp [tailC]
theorem wList_rel {w : Tx → J → Tx} {enc : J → Tx} (hg : ∀ b j, b.length ≤ (w b j).length) : ∀ (l : List J) (b : Tx), (∀ y ∈ l, ∀ b, Rel (w b y) (b ++ enc y)) → Rel (wList w false b l) (b ++ tailC (l.map enc))
 | [], b, _ => .inl (by simp [wList, tailC])
 | j :: l, b, h => by
  unfold wList
  rw [if_neg (by simp)]
  have h1 := h j (by simp) (b ++ [44])
  have e : b ++ tailC ((j :: l).map enc) = (b ++ [44] ++ enc j) ++ tailC (l.map enc) := by simp [tailC]
  rw [e]
  rcases h1 with h1 | ⟨h1, h2⟩
  ·rw [h1]
   exact wList_rel hg l _ fun y hy => h y (List.mem_cons_of_mem _ hy)
  ·have h3 := wList_ge hg l false (w (b ++ [44]) j)
   exact .inr ⟨by omega, by rw [List.length_append]; omega⟩
theorem wMap_rel {w : Tx → J → Tx} {enc : J → Tx} (hg : ∀ b j, b.length ≤ (w b j).length) {ks : List Tx} {l : List J} : ∀ (P : List Nat) (b : Tx), (∀ i ∈ P, ∀ b, Rel (w b (l.getD i J.zero)) (b ++ enc (l.getD i J.zero))) →
  Rel (wMap w ks l false b P) (b ++ tailC (P.map fun i => pairB (ks.getD i []) (enc (l.getD i J.zero))))
 | [], b, _ => .inl (by simp [wMap, tailC])
 | j :: P, b, h => by
  unfold wMap
  rw [if_neg (by simp)]
  have h1 := h j (by simp) (b ++ [44] ++ quoteB (ks.getD j []) ++ [58])
  have e : b ++ tailC ((j :: P).map fun i => pairB (ks.getD i []) (enc (l.getD i J.zero))) = (b ++ [44] ++ quoteB (ks.getD j []) ++ [58] ++ enc (l.getD j J.zero)) ++ tailC (P.map fun i => pairB (ks.getD i []) (enc (l.getD i J.zero))) := by simp [tailC, pairB]
  rw [e]
  rcases h1 with h1 | ⟨h1, h2⟩
  ·rw [h1]
   exact wMap_rel hg P _ fun y hy => h y (List.mem_cons_of_mem _ hy)
  ·have h3 := wMap_ge hg (ks := ks) (l := l) P false (w (b ++ [44] ++ quoteB (ks.getD j []) ++ [58]) (l.getD j J.zero))
   exact .inr ⟨by omega, by rw [List.length_append]; omega⟩
theorem zip_map {α β γ δ : Type} (f : β → γ → δ) (g : α → β) (h : α → γ) : ∀ P : List α, List.zipWith f (P.map g) (P.map h) = P.map fun i => f (g i) (h i)
 | [] => rfl
 | a :: P => by simp [zip_map f g h P]
theorem write_rel : ∀ (f : Nat) (b : Tx) (j : J), goodB f j = true → Rel (writeS f b j) (b ++ encJ (orderJ j))
 | 0, _, _, h => by cases h
 | f + 1, b, j, h => by
  obtain ⟨hs, ha⟩ := Bool.and_eq_true_iff.1 (show (shapedB j && j.l.all (goodB f)) = true from h)
  have hall : ∀ y ∈ j.l, goodB f y = true := fun y hy => List.all_eq_true.1 ha y hy
  have hk : (orderJ j).k = j.k ∧ (orderJ j).n = j.n ∧ (orderJ j).t = j.t := by
   rw [orderJ_eq]; split <;> exact ⟨rfl, rfl, rfl⟩
  rw [encJ_eq, hk.1, hk.2.1, hk.2.2]
  unfold writeS
  by_cases hb : 16384 < b.length
  ·rw [if_pos hb]
   exact .inr ⟨hb, by rw [List.length_append]; omega⟩
  rw [if_neg hb]
  split
  ·exact .inl rfl
  split
  ·exact .inl rfl
  split
  ·exact .inl rfl
  split
  ·rename_i h4
   have e : (orderJ j).l = j.l.map orderJ := by rw [orderJ_eq, if_neg (by omega)]; rfl
   rw [e, List.map_map]
   cases hl : j.l with
   | nil => exact .inl (by simp [wList, commas])
   | cons y l =>
    have hy : ∀ z ∈ y :: l, goodB f z = true := by rw [← hl]; exact hall
    rw [List.map_cons, commas_tail]
    have h1 := write_rel f (b ++ [91]) y (hy y (by simp))
    have e : b ++ 91 :: (((encJ ∘ orderJ) y ++ tailC (l.map (encJ ∘ orderJ))) ++ [93]) = ((b ++ [91] ++ encJ (orderJ y)) ++ tailC (l.map (encJ ∘ orderJ))) ++ [93] := by simp
    rw [e]
    refine Rel.app ?_ _
    unfold wList
    rw [if_pos rfl]
    rcases h1 with h1 | ⟨h1, h2⟩
    ·rw [h1]
     exact wList_rel (writeS_ge f) l _ fun z hz b => write_rel f b z (hy z (List.mem_cons_of_mem _ hz))
    ·have h3 := wList_ge (writeS_ge f) l false (writeS f (b ++ [91]) y)
     exact .inr ⟨by omega, by rw [List.length_append]; omega⟩
  split
  ·rename_i h5
   obtain ⟨hlen, hd⟩ := shaped_map hs h5
   have e1 : (orderJ j).ks = (byKeys j.ks).map fun i => j.ks.getD i [] := by rw [orderJ_eq, if_pos h5]; rfl
   have e2 : (orderJ j).l = (byKeys j.ks).map fun i => (j.l.map orderJ).getD i J.zero := by rw [orderJ_eq, if_pos h5]; rfl
   have e3 : (orderJ j).l.map encJ = (byKeys j.ks).map fun i => encJ (orderJ (j.l.getD i J.zero)) := by
    rw [e2, List.map_map]
    apply List.map_congr_left
    intro i hi
    have := byKeys_lt hi
    show encJ ((j.l.map orderJ).getD i J.zero) = _
    rw [getD_map orderJ j.l (by omega) J.zero]
   rw [e1, e3, zip_map]
   have hm : ∀ i ∈ byKeys j.ks, goodB f (j.l.getD i J.zero) = true := fun i hi => hall _ (by
    have := byKeys_lt hi
    simp only [List.getD, List.getElem?_eq_getElem (show i < j.l.length by omega), Option.getD_some]
    exact List.getElem_mem _)
   generalize byKeys j.ks = P at hm ⊢
   cases P with
   | nil => exact .inl (by simp [wMap, commas])
   | cons y P =>
    rw [List.map_cons, commas_tail]
    have h1 := write_rel f (b ++ [123] ++ quoteB (j.ks.getD y []) ++ [58]) (j.l.getD y J.zero) (hm y (by simp))
    have e : b ++ 123 :: ((pairB (j.ks.getD y []) (encJ (orderJ (j.l.getD y J.zero))) ++ tailC (P.map fun i => pairB (j.ks.getD i []) (encJ (orderJ (j.l.getD i J.zero))))) ++ [125]) =
      ((b ++ [123] ++ quoteB (j.ks.getD y []) ++ [58] ++ encJ (orderJ (j.l.getD y J.zero))) ++ tailC (P.map fun i => pairB (j.ks.getD i []) (encJ (orderJ (j.l.getD i J.zero))))) ++ [125] := by simp [pairB]
    rw [e]
    refine Rel.app ?_ _
    unfold wMap
    rw [if_pos rfl]
    rcases h1 with h1 | ⟨h1, h2⟩
    ·rw [h1]
     exact wMap_rel (enc := fun j => encJ (orderJ j)) (writeS_ge f) P _ fun z hz b => write_rel f b _ (hm z (List.mem_cons_of_mem _ hz))
    ·have h3 := wMap_ge (writeS_ge f) (ks := j.ks) (l := j.l) P false (writeS f (b ++ [123] ++ quoteB (j.ks.getD y []) ++ [58]) (j.l.getD y J.zero))
     exact .inr ⟨by omega, by rw [List.length_append]; omega⟩
  ·exact .inl rfl
def encodeS (j : J) : Except Nat Tx := if goodB 12 j then (if 16384 < (encJ (orderJ j)).length then .error 13 else .ok (encJ (orderJ j))) else .error 1
theorem encode_write {j : J} (h : goodB 12 j = true) : encodeS j = if 16384 < (writeS 12 [] j).length then .error 13 else .ok (writeS 12 [] j) := by
 unfold encodeS
 rw [if_pos h]
 have := write_rel 12 [] j h
 rw [List.nil_append] at this
 rcases this with h1 | ⟨h1, h2⟩
 ·rw [h1]
 ·rw [if_pos h1, if_pos h2]
end Go.Proofs.YtmhmjlfajlpabaaDoor
namespace Go.Proofs.YtmhmjlfajlpabaaDoor
open Go Go.Abs
theorem J.ext {a b : J} (h1 : a.k = b.k) (h2 : a.n = b.n) (h3 : a.t = b.t) (h4 : a.ks = b.ks) (h5 : a.l = b.l) : a = b := by
 obtain ⟨k, n, t, ks, l⟩ := a
 obtain ⟨k', n', t', ks', l'⟩ := b
 simp only [J.k, J.n, J.t, J.ks, J.l] at h1 h2 h3 h4 h5
 subst h1 h2 h3 h4 h5; rfl
theorem strs_inj : ∀ {a b : List Tx}, a.map D.str = b.map D.str → a = b
 | [], [], _ => rfl
 | [], _ :: _, h => by cases h
 | _ :: _, [], h => by cases h
 | x :: a, y :: b, h => by
  injection h with h1 h2
  injection h1 with h1
  rw [h1, strs_inj h2]
theorem jd_inj_aux : ∀ (n : Nat) (a b : J), wt a ≤ n → a.d = b.d → a = b
 | 0, a, _, h, _ => absurd (wt_pos a) (by omega)
 | n + 1, a, b, h, e => by
  rw [jd, jd] at e
  injection e with e
  simp only [List.cons.injEq, D.int.injEq, D.str.injEq, D.slice.injEq, true_and, and_true] at e
  obtain ⟨h1, h2, h3, h4, h5⟩ := e
  refine J.ext h1 h2 h3 (strs_inj h4) ?_
  have key : ∀ l m : List J, (∀ y ∈ l, wt y ≤ n) → l.map J.d = m.map J.d → l = m := by
   intro l
   induction l with
   | nil => intro m _ hm; cases m with
    | nil => rfl
    | cons _ _ => cases hm
   | cons y l ih =>
    intro m hw hm
    cases m with
    | nil => cases hm
    | cons z m =>
     injection hm with h1 h2
     rw [jd_inj_aux n y z (hw y (by simp)) h1, ih m (fun y hy => hw y (List.mem_cons_of_mem _ hy)) h2]
  exact key a.l b.l (fun y hy => by have := wt_mem hy; omega) h5
theorem jd_inj {a b : J} (h : a.d = b.d) : a = b := jd_inj_aux (wt a) a b (Nat.le_refl _) h
def sJ (a b : J) : Bool := D.beq a.d b.d
theorem sJ_iff (a b : J) : sJ a b = true ↔ a = b := by
 unfold sJ
 rw [@D.beq_iff ⟨fun _ => none, fun _ => false, fun _ => false⟩]
 exact ⟨jd_inj, fun h => by rw [h]⟩
theorem sJ_self (a : J) : sJ a a = true := (sJ_iff a a).2 rfl
theorem sJ_ne {a b : J} (h : a ≠ b) : sJ a b = false := by rw [Bool.eq_false_iff, Ne, sJ_iff]; exact h
def digF : Nat → Nat → Tx → Tx
 | 0, _, s => s
 | f + 1, n, s => if s = [] ∨ 0 < n then digF f (n / 10) (UInt8.ofNat (48 + n % 10) :: s) else s
end Go.Proofs.YtmhmjlfajlpabaaDoor
set_option maxRecDepth 100000
namespace Go.Proofs.YtmhmjlfajlpabaaDoor
open Go Go.Abs Go.Lib
theorem take_succ_eq {α : Type} {a b : List α} {i : Nat} {x y : α} (h : a.take i = b.take i) (ha : a[i]? = some x) (hb : b[i]? = some y) (e : x = y) : a.take (i + 1) = b.take (i + 1) := by
 rw [List.take_add_one, List.take_add_one, ha, hb, h, e]
theorem Same_ev : ∀ (N : Nat) (lim : Nat) (H : AHeap) (a b : J), wt a ≤ N → N ≤ 100000000000 → wt b ≤ 100000000000 → Ev (envN code primsF) 14 lim [.d a.d, .d b.d] H (boolD (sJ a b)) H
 | 0, _, _, a, _, h, _, _ => absurd (wt_pos a) (by omega)
 | N + 1, lim, H, a, b, ha, hN, hb => by
  refine Fn.ev ?_
  refine Fn_of (pn rfl) rfl (show code 14 = some c14 from rfl) rfl ?_; simp only [List.length_cons,List.length_nil,List.cons_append,List.nil_append,simprocAttr]
  have had := jd a
  have hbd := jd b
  obtain ⟨J', hJ⟩ : ∃ J', H ++ [AObj.cells (jC a)] = J' := ⟨_, rfl⟩
  obtain ⟨K, hK⟩ : ∃ K, J' ++ [AObj.cells (jC b)] = K := ⟨_, rfl⟩
  have gK : K[H.length]? = some (.cells (jC a)) := by rw [← hK, ← hJ]; exact get_more _ (get_last _ _)
  have gK2 : K[J'.length]? = some (.cells (jC b)) := by rw [← hK]; exact get_last _ _
  have a1 := wt_ks a
  have a2 := wt_l a
  have b1 := wt_ks b
  have b2 := wt_l b
  (iterate 2 refine w_s (j_ had (j_ hbd (j_ hJ hK))) ?_)
  by_cases k1 : a.k = b.k
  rotate_left
  ·have f1 : (a.k != b.k) = true := by simpa using k1
   rw [sJ_ne fun e => k1 (by rw [e])]
   refine w_r (j_ gK (j_ gK2 f1)) ?_
   exact ans_cut rfl rfl ⟨rfl, rfl⟩
  have f1 : (a.k != b.k) = false := by simpa using k1
  by_cases k2 : a.n = b.n
  rotate_left
  ·have f2 : (a.n != b.n) = true := by simpa using k2
   rw [sJ_ne fun e => k2 (by rw [e])]
   refine w_r (j_ gK (j_ gK2 (j_ f1 f2))) ?_
   exact ans_cut rfl rfl ⟨rfl, rfl⟩
  have f2 : (a.n != b.n) = false := by simpa using k2
  by_cases k3 : a.t = b.t
  rotate_left
  ·have f3 : (!(a.t == b.t)) = true := by simpa using k3
   rw [sJ_ne fun e => k3 (by rw [e])]
   refine w_r (j_ gK (j_ gK2 (j_ f1 (j_ f2 f3)))) ?_
   exact ans_cut rfl rfl ⟨rfl, rfl⟩
  have f3 : (!(a.t == b.t)) = false := by simpa using k3
  by_cases k4 : a.ks.length = b.ks.length
  rotate_left
  ·have f4 : ((a.ks.length : Int) != (b.ks.length : Int)) = true := by simp; omega
   rw [sJ_ne fun e => k4 (by rw [e])]
   refine w_r (j_ gK (j_ gK2 (j_ f1 (j_ f2 (j_ f3 (j_ f4 (@List.length_map.{0,0}))))))) ?_
   exact ans_cut rfl rfl ⟨rfl, rfl⟩
  have f4 : ((a.ks.length : Int) != (b.ks.length : Int)) = false := by simp; omega
  by_cases k5 : a.l.length = b.l.length
  rotate_left
  ·have f5 : ((a.l.length : Int) != (b.l.length : Int)) = true := by simp; omega
   rw [sJ_ne fun e => k5 (by rw [e])]
   refine w_r (j_ gK (j_ gK2 (j_ f1 (j_ f2 (j_ f3 (j_ f4 (j_ f5 (@List.length_map.{0,0})))))))) ?_
   exact ans_cut rfl rfl ⟨rfl, rfl⟩
  have f5 : ((a.l.length : Int) != (b.l.length : Int)) = false := by simp; omega
  refine w_r (j_ gK (j_ gK2 (j_ f1 (j_ f2 (j_ f3 (j_ f4 (j_ f5 (@List.length_map.{0,0})))))))) ?_
  refine W_lp (fun k st => ∃ i : Nat, i ≤ a.ks.length ∧ k = a.ks.length - i ∧ a.ks.take i = b.ks.take i ∧ ∃ x : Nat → AV, st = ⟨[x 0, x 1, x 2, x 3, x 4, x 5, x 6, boolD false, .ptr H.length 0, .ptr J'.length 0, intD i, x 11, x 12, x 13, x 14], K⟩) ?_ _ _ ⟨0, Nat.zero_le _, rfl, rfl, ex_st _ _ _ rfl⟩
  rintro k _ ⟨i, hi, rfl, he, x, rfl⟩
  by_cases t0 : i < a.ks.length
  ·have g1 : ((i : Int) < (a.ks.length : Int)) = True := eq_true (by omega)
   have w1 : IntKind.i64.wrap ((i : Int) + 1) = ((i + 1 : Nat) : Int) := wsucc (by omega)
   obtain ⟨s, hs⟩ : ∃ s, a.ks[i]? = some s := ⟨_, List.getElem?_eq_getElem t0⟩
   obtain ⟨t, ht⟩ : ∃ t, b.ks[i]? = some t := ⟨_, List.getElem?_eq_getElem (by omega)⟩
   have hc : ∀ s : Tx, (D.str s).cells = [D.str s] := fun _ => rfl
   by_cases h : s = t
   ·have g2 : (!(s == t)) = false := by simpa using h
    refine w_r (j_ gK (j_ gK2 (j_ g1 (j_ w1 (j_ hs (j_ ht (j_ hc (j_ g2 (@List.length_map.{0,0}))))))))) ?_
    exact ⟨a.ks.length - (i + 1), by omega, i + 1, t0, rfl, take_succ_eq he hs ht h, ex_st _ _ _ rfl⟩
   ·have g2 : (!(s == t)) = true := by simpa using h
    rw [sJ_ne fun e => h (by rw [e, ht] at hs; exact (Option.some.inj hs).symm)]
    refine w_r (j_ gK (j_ gK2 (j_ g1 (j_ hs (j_ ht (j_ hc (j_ g2 (@List.length_map.{0,0})))))))) ?_
    exact ans_cut rfl rfl ⟨rfl, rfl⟩
  ·obtain rfl : i = a.ks.length := by omega
   have g1 : ((a.ks.length : Int) < (a.ks.length : Int)) = False := eq_false (by omega)
   rw [List.take_length, k4, List.take_length] at he
   refine w_r (j_ gK (j_ g1 (@List.length_map.{0,0}))) ?_
   refine W_lp (fun k st => ∃ i : Nat, i ≤ a.l.length ∧ k = a.l.length - i ∧ a.l.take i = b.l.take i ∧ ∃ x : Nat → AV, st = ⟨[x 0, x 1, x 2, x 3, x 4, x 5, x 6, boolD false, .ptr H.length 0, .ptr J'.length 0, x 10, intD i, x 12, x 13, x 14], K⟩) ?_ _ _ ⟨0, Nat.zero_le _, rfl, rfl, ex_st _ _ _ rfl⟩
   rintro k _ ⟨i, hi, rfl, hel, x, rfl⟩
   by_cases t0 : i < a.l.length
   ·have g1 : ((i : Int) < (a.l.length : Int)) = True := eq_true (by omega)
    have w1 : IntKind.i64.wrap ((i : Int) + 1) = ((i + 1 : Nat) : Int) := wsucc (by omega)
    obtain ⟨y, hy⟩ : ∃ y, a.l[i]? = some y := ⟨_, List.getElem?_eq_getElem t0⟩
    obtain ⟨z, hz⟩ : ∃ z, b.l[i]? = some z := ⟨_, List.getElem?_eq_getElem (by omega)⟩
    have hyd := jd y
    have hzd := jd z
    have hs := Same_ev N H.length K y z (by have := wt_mem (List.mem_of_getElem? hy); omega) (by omega) (by have := wt_mem (List.mem_of_getElem? hz); omega)
    simp only [hyd, hzd] at hs
    by_cases h : y = z
    ·rw [(sJ_iff y z).2 h] at hs
     refine w_r (j_ gK (j_ g1 (@List.length_map.{0,0}))) ?_
     refine W_region ?_; apply WO_take 8; (focus (intro _; simp only [zz,simprocAttr,gK, gK2, hy, hz, hyd, hzd]; (first | done | with_reducible exact rfl))); simp only [List.drop_succ_cons,List.drop_zero]; refine WO_call ?_; simp only [zz,simprocAttr]; refine Ev.fn hs ?_
     (apply WO_end; (focus (intro _; simp only [zz,simprocAttr]; (first | done | with_reducible exact rfl)))) <;> (try simp only [zp,simprocAttr])
     refine w_r w1 ?_
     exact ⟨a.l.length - (i + 1), by omega, i + 1, t0, rfl, take_succ_eq hel hy hz h, ex_st _ _ _ rfl⟩
    ·rw [sJ_ne h] at hs
     rw [sJ_ne fun e => h (by rw [e, hz] at hy; exact (Option.some.inj hy).symm)]
     refine w_r (j_ gK (j_ g1 (@List.length_map.{0,0}))) ?_
     refine W_region ?_; apply WO_take 8; (focus (intro _; simp only [zz,simprocAttr,gK, gK2, hy, hz, hyd, hzd]; (first | done | with_reducible exact rfl))); simp only [List.drop_succ_cons,List.drop_zero]; refine WO_call ?_; simp only [zz,simprocAttr]; refine Ev.fn hs ?_
     (apply WO_end; (focus (intro _; simp only [zz,simprocAttr]; (first | done | with_reducible exact rfl)))) <;> (try simp only [zp,simprocAttr])
     refine w_r trivial ?_
     exact ans_cut rfl rfl ⟨rfl, rfl⟩
   ·obtain rfl : i = a.l.length := by omega
    have g1 : ((a.l.length : Int) < (a.l.length : Int)) = False := eq_false (by omega)
    rw [List.take_length, k5, List.take_length] at hel
    rw [(sJ_iff a b).2 (J.ext k1 k2 k3 he hel)]
    refine w_r (j_ gK (j_ g1 (@List.length_map.{0,0}))) ?_
    exact ans_cut rfl rfl ⟨rfl, rfl⟩
end Go.Proofs.YtmhmjlfajlpabaaDoor
set_option maxRecDepth 100000
namespace Go.Proofs.YtmhmjlfajlpabaaDoor
open Go Go.Abs Go.Lib
abbrev hexs : Tx := [48, 49, 50, 51, 52, 53, 54, 55, 56, 57, 97, 98, 99, 100, 101, 102]
theorem hex_at : ∀ n : Fin 16, hexs[n.val]? = some (hexC n.val) := by decide
theorem flat_succ {s : Tx} {i : Nat} {c : UInt8} (h : s[i]? = some c) : (s.take i).flatMap escB ++ escB c = (s.take (i + 1)).flatMap escB := by
 rw [List.take_add_one, h]; simp
end Go.Proofs.YtmhmjlfajlpabaaDoor
namespace Go.Proofs.YtmhmjlfajlpabaaDoor
open Go Go.Abs
def TxtOK : Nat → J → Prop
 | 0, _ => False
 | n + 1, j => (j.k = 2 → -9007199254740991 ≤ j.n ∧ j.n ≤ 9007199254740991) ∧ (j.k = 5 → j.ks.length = j.l.length) ∧ ∀ y ∈ j.l, TxtOK n y
theorem wts_map_eq : ∀ {l : List J}, (∀ y ∈ l, wt (orderJ y) = wt y) → wts (l.map orderJ) = wts l
 | [], _ => rfl
 | a :: l, h => by rw [List.map_cons, wts_cons, wts_cons, h a (by simp), wts_map_eq fun y hy => h y (List.mem_cons_of_mem _ hy)]
theorem wt_mk (k n : Int) (t : Tx) (ks : List Tx) (l : List J) : wt (.mk k n t ks l) = 1 + t.length + (ks.map fun k => k.length + 1).sum + wts l := wt_eq _
theorem wt_order : ∀ {n : Nat} {j : J}, OrdOK n j → wt (orderJ j) = wt j
 | 0, _, h => h.elim
 | n + 1, j, ⟨h1, h2, _, h4⟩ => by
  have ih : ∀ y ∈ j.l, wt (orderJ y) = wt y := fun y hy => wt_order (h4 y hy)
  rw [orderJ_eq]
  split
  ·rename_i h5
   obtain ⟨hl, hd⟩ := h1 h5
   rw [wt_mk, wt_eq j]
   have e1 : (((byKeys j.ks).map fun i => j.ks.getD i []).map fun k => k.length + 1).sum = (j.ks.map fun k => k.length + 1).sum := by
    rw [List.map_map, perm_sum ((byKeys_perm j.ks).map _), ← List.map_map, range_getD]
   have e2 : wts ((byKeys j.ks).map fun i => (j.l.map orderJ).getD i J.zero) = wts j.l := by
    rw [← wts_sum, List.map_map, perm_sum ((byKeys_perm j.ks).map _), ← List.map_map, hl, show j.l.length = (j.l.map orderJ).length by simp, range_getD, wts_sum, wts_map_eq ih]
   rw [e1, e2]
  ·rename_i h5
   rw [wt_mk, wt_eq j, h2 h5, wts_map_eq ih]
end Go.Proofs.YtmhmjlfajlpabaaDoor
set_option maxRecDepth 100000
namespace Go.Proofs.YtmhmjlfajlpabaaDoor
open Go Go.Abs Go.Lib
end Go.Proofs.YtmhmjlfajlpabaaDoor
set_option maxRecDepth 100000
namespace Go.Proofs.YtmhmjlfajlpabaaDoor
open Go Go.Abs Go.Lib
def doneR (n : Nat) (Q : List Nat) : List AV := (List.range n).map fun p => boolD (Q.contains p)
def Least (ks : List Tx) (Q : List Nat) (q : Nat) (m : Int) : Prop :=
 (m = -1 ∧ ∀ p, p < q → p ∈ Q) ∨ ∃ p0 : Nat, m = p0 ∧ p0 < q ∧ p0 ∉ Q ∧ ∀ p, p < q → p ∉ Q → ¬ keyAt ks p < keyAt ks p0
end Go.Proofs.YtmhmjlfajlpabaaDoor
set_option maxRecDepth 100000
namespace Go.Proofs.YtmhmjlfajlpabaaDoor
open Go Go.Abs Go.Lib
theorem valid_ev (lim : Nat) (H : AHeap) (s : Tx) (hs : s.length ≤ 100000000000) : Ev (envN code primsF) 67 lim [.d (.str s)] H (boolD (vB s)) H := by
 refine Ev_prim (F := validF) POK.valid ?_
 unfold validF
 simp only
 rw [if_pos (by omega)]
def mE (s : Tx) : D × AV := (.str s, .d (.bool true))
theorem beq_str (s t : Tx) : D.beq (.str s) (.str t) = decide (s = t) := by
 rw [Bool.eq_iff_iff]; simp [D.beq]
theorem find_no : ∀ {rows : List Tx} {s : Tx}, s ∉ rows → findE (.str s) (rows.map mE) = none
 | [], _, _ => rfl
 | t :: rows, s, h => by
  have h1 : s ≠ t := fun e => h (e ▸ List.mem_cons_self)
  show (if D.beq (.str s) (.str t) then _ else findE (.str s) (rows.map mE)) = none
  rw [beq_str, decide_eq_false h1, if_neg (by simp)]
  exact find_no fun k => h (List.mem_cons_of_mem _ k)
theorem find_yes : ∀ {rows : List Tx} {s : Tx}, s ∈ rows → findE (.str s) (rows.map mE) = some (.d (.bool true))
 | t :: rows, s, h => by
  show (if D.beq (.str s) (.str t) then some (.d (.bool true)) else findE (.str s) (rows.map mE)) = _
  rw [beq_str]
  by_cases h1 : s = t
  ·rw [decide_eq_true h1, if_pos rfl]
  ·rw [decide_eq_false h1, if_neg (by simp)]
   rcases List.mem_cons.1 h with e | h
   ·exact absurd e h1
   ·exact find_yes h
theorem set_no : ∀ {rows : List Tx} {s : Tx}, s ∉ rows → setE (.str s) (.d (.bool true)) (rows.map mE) = (rows ++ [s]).map mE
 | [], _, _ => rfl
 | t :: rows, s, h => by
  have h1 : s ≠ t := fun e => h (e ▸ List.mem_cons_self)
  show (if D.beq (.str s) (.str t) then _ else (.str t, .d (.bool true)) :: setE (.str s) (.d (.bool true)) (rows.map mE)) = _
  rw [beq_str, decide_eq_false h1, if_neg (by simp), set_no fun k => h (List.mem_cons_of_mem _ k)]
  rfl
theorem named_ev (lim : Nat) (H : AHeap) (ks : List Tx) (hk : ks.length ≤ 100000000000) (hs : ∀ s ∈ ks, s.length ≤ 100000000000) : Ev (envN code primsF) 68 lim [.d (sD ks)] H (boolD (namedB ks)) H := by
 refine Fn.ev ?_
 refine Fn_of (pn rfl) rfl (show code 68 = some c68 from rfl) rfl ?_; simp only [List.length_cons,List.length_nil,List.cons_append,List.nil_append,simprocAttr]
 refine w_r (@List.length_map.{0,0}) ?_
 refine W_lp (fun k st => ∃ (i : Nat) (K : AHeap), i ≤ ks.length ∧ k = ks.length - i ∧ (ks.take i).all vB = true ∧ (ks.take i).Nodup ∧ K[H.length]? = some (.map .str ((ks.take i).map mE)) ∧ ∃ x : Nat → AV, st = ⟨[x 0, x 1, x 2, boolD false, .mapr H.length, .d (sD ks), intD ks.length, intD i, x 8, x 9, x 10], K⟩) ?_ _ _ ⟨0, _, Nat.zero_le _, rfl, rfl, List.nodup_nil, get_last _ _, ex_st _ _ _ rfl⟩
 rintro k _ ⟨i, K, hi, rfl, ha, hnd, gK, x, rfl⟩
 by_cases t0 : i < ks.length
 ·have f1 : ((i : Int) < (ks.length : Int)) = True := eq_true (by omega)
  have w1 : IntKind.i64.wrap ((i : Int) + 1) = ((i + 1 : Nat) : Int) := wsucc (by omega)
  obtain ⟨s, hsx⟩ : ∃ s, ks[i]? = some s := ⟨_, List.getElem?_eq_getElem t0⟩
  have hc : ∀ s : Tx, (D.str s).cells = [D.str s] := fun _ => rfl
  have hik : ∀ s : Tx, isKey .str (.str s) = true := fun _ => rfl
  have hst := all_cut hsx vB
  rw [ha, Bool.true_and] at hst
  by_cases hm : s ∈ ks.take i
  ·have hf := find_yes hm
   have hno : namedB ks = false := by
    obtain ⟨q, hq, he⟩ := List.getElem_of_mem hm
    have hq' : q < i := by simp at hq; omega
    rw [List.getElem_take] at he
    exact nodup_no hsx (by rw [← he]; exact List.getElem?_eq_getElem _) hq'
   rw [hno]
   generalize (ks.take i).map mE = es at *
   refine w_r (j_ gK (j_ f1 (j_ hsx (j_ hc (j_ hik (j_ hf (@List.length_map.{0,0}))))))) ?_
   exact ans_cut rfl rfl ⟨rfl, rfl⟩
  ·have hf := find_no hm
   have hse := set_no hm
   have hx : ks.take i ++ [s] = ks.take (i + 1) := by rw [List.take_add_one, hsx]; rfl
   rw [hx] at hse
   have hn2 := nodup_step hsx hnd hm
   have he := valid_ev H.length K s (hs s (List.mem_of_getElem? hsx))
   have hl : H.length < K.length := (List.getElem?_eq_some_iff.1 gK).1
   have gS : ∀ o : AObj, (K.set H.length o)[H.length]? = some o := fun o => List.getElem?_set_self hl
   cases hv : vB s with
   | true =>
    rw [hv] at he hst
    obtain ⟨es, hes⟩ : ∃ es, (ks.take i).map mE = es := ⟨_, rfl⟩
    rw [hes] at gK hf hse
    (iterate 10 refine w_s (j_ gK (j_ f1 (j_ hsx (j_ hc (@List.length_map.{0,0}))))) ?_)
    refine w_1 he (j_ gK (j_ hik hf)) ?_
    refine w_r (j_ gK (j_ hik (j_ hse w1))) ?_
    exact ⟨ks.length - (i + 1), by omega, i + 1, _, t0, rfl, hst, hn2, gS _, ex_st _ _ _ rfl⟩
   | false =>
    rw [hv] at he
    have hno : namedB ks = false := by unfold namedB; rw [all_no hsx hv]; rfl
    rw [hno]
    obtain ⟨es, hes⟩ : ∃ es, (ks.take i).map mE = es := ⟨_, rfl⟩
    rw [hes] at gK hf hse
    (iterate 10 refine w_s (j_ gK (j_ f1 (j_ hsx (j_ hc (@List.length_map.{0,0}))))) ?_)
    refine w_1 he (j_ gK (j_ hik hf)) ?_
    refine w_r trivial ?_
    exact ans_cut rfl rfl ⟨rfl, rfl⟩
 ·obtain rfl : i = ks.length := by omega
  have f1 : ((ks.length : Int) < (ks.length : Int)) = False := eq_false (by omega)
  rw [List.take_length] at ha hnd
  have : namedB ks = true := by unfold namedB; rw [ha, decide_eq_true hnd]; rfl
  rw [this]
  refine w_r (j_ f1 (@List.length_map.{0,0})) ?_
  exact ans_cut rfl rfl ⟨rfl, rfl⟩
set_option maxHeartbeats 1000000 in
--
theorem shape_ev (lim : Nat) (H : AHeap) (j : J) (hj : Sh j) : Ev (envN code primsF) 52 lim [.d j.d] H (boolD (shapedB j)) H := by
 refine Fn.ev ?_
 refine Fn_of (pn rfl) rfl (show code 52 = some c52 from rfl) rfl ?_; simp only [List.length_cons,List.length_nil,List.cons_append,List.nil_append,simprocAttr]
 obtain ⟨s1, s2, s3, s4⟩ := hj
 obtain ⟨K, hK⟩ : ∃ K, H ++ [AObj.cells (jC j)] = K := ⟨_, rfl⟩
 have gK : K[H.length]? = some (.cells (jC j)) := by rw [← hK]; exact get_last _ _
 have hjd := jd j
 have w0 : IntKind.i64.wrap ((j.ks.length : Int) + (j.l.length : Int)) = ((j.ks.length + j.l.length : Nat) : Int) := by rw [w64 (by omega) (by omega)]; omega
 have eE : (((j.ks.length + j.l.length : Nat) : Int) == 0) = emptyB j := by rw [eq0]; exact decide_eq_decide.2 (by omega)
 have eN := eq0 j.n 0
 have eN1 := eq0 j.n 1
 have eT := eqT j.t []
 have hr : shapedB j = if j.k = 0 then emptyB j && decide (j.n = 0) && decide (j.t = [])
  else if j.k = 1 then emptyB j && decide (j.t = []) && (decide (j.n = 0) || decide (j.n = 1))
  else if j.k = 2 then emptyB j && decide (j.t = []) && decide (-9007199254740991 ≤ j.n) && decide (j.n ≤ 9007199254740991)
  else if j.k = 3 then emptyB j && decide (j.n = 0) && vB j.t
  else if j.k = 4 then decide (j.ks.length = 0) && decide (j.n = 0) && decide (j.t = [])
  else if j.k = 5 then decide (j.ks.length = j.l.length) && decide (j.n = 0) && decide (j.t = []) && namedB j.ks
  else false := rfl
 rw [hr]
 (iterate 2 refine w_s (j_ hjd hK) ?_)
 (iterate 4 refine w_s (j_ gK (j_ w0 (j_ eE (@List.length_map.{0,0})))) ?_)
 have k0e := eq0 j.k 0
 have k1e := eq0 j.k 1
 have k2e := eq0 j.k 2
 have k3e := eq0 j.k 3
 have k4e := eq0 j.k 4
 have k5e := eq0 j.k 5
 by_cases k0 : j.k = 0
 ·rw [if_pos k0]
  rw [decide_eq_true k0] at k0e
  generalize emptyB j = b1 at *
  generalize decide (j.n = 0) = b2 at *
  generalize decide (j.t = []) = b3 at *
  cases b1 <;> cases b2 <;> cases b3 <;> (refine w_r (j_ gK (j_ k0e (j_ eN eT))) ?_; exact ans_cut rfl rfl ⟨rfl, rfl⟩)
 rw [if_neg k0]
 rw [decide_eq_false k0] at k0e
 by_cases k1 : j.k = 1
 ·rw [if_pos k1]
  rw [decide_eq_true k1] at k1e
  generalize emptyB j = b1 at *
  generalize decide (j.n = 0) = b2 at *
  generalize decide (j.n = 1) = b4 at *
  generalize decide (j.t = []) = b3 at *
  cases b1 <;> cases b2 <;> cases b3 <;> cases b4 <;> (refine w_r (j_ gK (j_ k0e (j_ k1e (j_ eN (j_ eN1 eT))))) ?_; exact ans_cut rfl rfl ⟨rfl, rfl⟩)
 rw [if_neg k1]
 rw [decide_eq_false k1] at k1e
 by_cases k2 : j.k = 2
 ·rw [if_pos k2]
  rw [decide_eq_true k2] at k2e
  generalize emptyB j = b1 at *
  generalize decide (j.t = []) = b3 at *
  by_cases h2 : -9007199254740991 ≤ j.n
  ·have f2 : (-9007199254740991 ≤ j.n) = True := eq_true h2
   rw [decide_eq_true h2]
   by_cases h4 : j.n ≤ 9007199254740991
   ·have f4 : (j.n ≤ 9007199254740991) = True := eq_true h4
    rw [decide_eq_true h4]
    cases b1 <;> cases b3 <;> (refine w_r (j_ gK (j_ k0e (j_ k1e (j_ k2e (j_ f2 (j_ f4 eT)))))) ?_; exact ans_cut rfl rfl ⟨rfl, rfl⟩)
   ·have f4 : (j.n ≤ 9007199254740991) = False := eq_false h4
    rw [decide_eq_false h4]
    cases b1 <;> cases b3 <;> (refine w_r (j_ gK (j_ k0e (j_ k1e (j_ k2e (j_ f2 (j_ f4 eT)))))) ?_; exact ans_cut rfl rfl ⟨rfl, rfl⟩)
  ·have f2 : (-9007199254740991 ≤ j.n) = False := eq_false h2
   rw [decide_eq_false h2]
   generalize decide (j.n ≤ 9007199254740991) = b4
   cases b1 <;> cases b3 <;> cases b4 <;> (refine w_r (j_ gK (j_ k0e (j_ k1e (j_ k2e (j_ f2 eT))))) ?_; exact ans_cut rfl rfl ⟨rfl, rfl⟩)
 rw [if_neg k2]
 rw [decide_eq_false k2] at k2e
 by_cases k3 : j.k = 3
 ·rw [if_pos k3]
  rw [decide_eq_true k3] at k3e
  have he := valid_ev H.length K j.t s1
  generalize emptyB j = b1 at *
  generalize decide (j.n = 0) = b2 at *
  generalize vB j.t = b3 at *
  (iterate 15 refine w_s (j_ gK (j_ k0e (j_ k1e (j_ k2e k3e)))) ?_)
  cases b1 <;> cases b2 <;> cases b3 <;> (refine w_1 he (j_ gK eN) ?_; refine w_r trivial ?_; exact ans_cut rfl rfl ⟨rfl, rfl⟩)
 rw [if_neg k3]
 rw [decide_eq_false k3] at k3e
 by_cases k4 : j.k = 4
 ·rw [if_pos k4]
  rw [decide_eq_true k4] at k4e
  have eE4 : ((j.ks.length : Int) == 0) = decide (j.ks.length = 0) := by rw [eq0]; exact decide_eq_decide.2 (by omega)
  generalize decide (j.ks.length = 0) = b1 at *
  generalize decide (j.n = 0) = b2 at *
  generalize decide (j.t = []) = b3 at *
  cases b1 <;> cases b2 <;> cases b3 <;> (refine w_r (j_ gK (j_ k0e (j_ k1e (j_ k2e (j_ k3e (j_ k4e (j_ eN (j_ eT (j_ eE4 (@List.length_map.{0,0})))))))))) ?_; exact ans_cut rfl rfl ⟨rfl, rfl⟩)
 rw [if_neg k4]
 rw [decide_eq_false k4] at k4e
 by_cases k5 : j.k = 5
 ·rw [if_pos k5]
  rw [decide_eq_true k5] at k5e
  have he := named_ev H.length K j.ks s2 s4
  have eE5 : ((j.ks.length : Int) == (j.l.length : Int)) = decide (j.ks.length = j.l.length) := by rw [eq0]; exact decide_eq_decide.2 (by omega)
  generalize decide (j.ks.length = j.l.length) = b1 at *
  generalize decide (j.n = 0) = b2 at *
  generalize decide (j.t = []) = b3 at *
  generalize namedB j.ks = b4 at *
  (iterate 21 refine w_s (j_ gK (j_ k0e (j_ k1e (j_ k2e (j_ k3e (j_ k4e k5e)))))) ?_)
  cases b1 <;> cases b2 <;> cases b3 <;> cases b4 <;> (refine w_1 he (j_ gK (j_ eN (j_ eT (j_ eE5 (@List.length_map.{0,0}))))) ?_; refine w_r trivial ?_; exact ans_cut rfl rfl ⟨rfl, rfl⟩)
 rw [if_neg k5]
 rw [decide_eq_false k5] at k5e
 refine w_r (j_ gK (j_ k0e (j_ k1e (j_ k2e (j_ k3e (j_ k4e k5e)))))) ?_
 exact ans_cut rfl rfl ⟨rfl, rfl⟩
end Go.Proofs.YtmhmjlfajlpabaaDoor
set_option maxRecDepth 100000
namespace Go.Proofs.YtmhmjlfajlpabaaDoor
open Go Go.Abs Go.Lib
def IdxQ (l : List J) (g : J → Bool) (H : AHeap) (v : AV) (H' : AHeap) : Prop := (∃ r : Int, v = intD r ∧ decide (r ≥ 0) = l.any g) ∧ H' = H
theorem idxf_ev (lim : Nat) (K : AHeap) (l : List J) (r : Nat) (g : J → Bool) (hl : l.length ≤ 100000000000) (hc : ∀ y ∈ l, Ev (envN code primsF) 54 K.length [.d y.d, .ptr r 0] K (boolD (g y)) K) :
  Go.Abs.Fn (envN code primsF) 69 lim [.d (jsD l), .func (.func 54) [.ptr r 0]] K (IdxQ l g K) := by
 refine Fn_of (pn rfl) rfl (show code 69 = some c69 from rfl) rfl ?_; simp only [List.length_cons,List.length_nil,List.cons_append,List.nil_append,simprocAttr]
 refine w_r (@List.length_map.{0,0}) ?_
 refine W_lp (fun k st => ∃ i : Nat, i ≤ l.length ∧ k = l.length - i ∧ (l.take i).any g = false ∧ ∃ x : Nat → AV, st = ⟨[.d (jsD l), .func (.func 54) [.ptr r 0], x 2, x 3, intD 0, intD l.length, intD i, x 7, x 8], K⟩) ?_ _ _ ⟨0, Nat.zero_le _, rfl, rfl, ex_st _ _ _ rfl⟩
 rintro k _ ⟨i, hi, rfl, ha, x, rfl⟩
 by_cases t0 : i < l.length
 ·have f1 : ((i : Int) < (l.length : Int)) = True := eq_true (by omega)
  have w1 : IntKind.i64.wrap ((i : Int) + 1) = ((i + 1 : Nat) : Int) := wsucc (by omega)
  obtain ⟨y, hy⟩ : ∃ y, l[i]? = some y := ⟨_, List.getElem?_eq_getElem t0⟩
  have hyd := jd y
  have hst := any_cut hy g
  rw [ha, Bool.false_or] at hst
  have he := hc y (List.mem_of_getElem? hy)
  simp only [hyd] at he
  refine w_r f1 ?_
  refine W_region ?_
  apply WO_take 2; (focus (intro _; simp only [zz,simprocAttr, hy, hyd, List.length_map]; (first | done | exact rfl))); simp only [List.drop_succ_cons, List.drop_zero]
  refine WO_callV (f := 54) (caps := [.ptr r 0]) rfl ?_
  simp only [evx, List.map_cons, List.map_nil, List.contains, List.elem, List.getD_cons_succ, List.getD_cons_zero, reduceIte, Bool.false_eq_true, AV.unf, List.cons_append, List.nil_append]
  refine Ev.fn he ?_
  (apply WO_end; (focus (intro _; simp only [zz,simprocAttr]; (first | done | with_reducible exact rfl)))) <;> (try simp only [zp,simprocAttr])
  cases hv : g y with
  | true =>
   refine w_r trivial ?_
   exact ans_cut rfl rfl ⟨⟨_, rfl, by rw [any_yes hy hv]; exact decide_eq_true (by omega)⟩, rfl⟩
  | false =>
   rw [hv] at hst
   refine w_r w1 ?_
   exact ⟨l.length - (i + 1), by omega, i + 1, t0, rfl, hst, ex_st _ _ _ rfl⟩
 ·obtain rfl : i = l.length := by omega
  have f1 : ((l.length : Int) < (l.length : Int)) = False := eq_false (by omega)
  rw [List.take_length] at ha
  refine w_r f1 ?_
  exact ans_cut rfl rfl ⟨⟨_, rfl, by rw [ha]; rfl⟩, rfl⟩
theorem has_ev (lim : Nat) (K : AHeap) (l : List J) (r : Nat) (g : J → Bool) (hl : l.length ≤ 100000000000) (hc : ∀ y ∈ l, Ev (envN code primsF) 54 K.length [.d y.d, .ptr r 0] K (boolD (g y)) K) :
  Ev (envN code primsF) 53 lim [.d (jsD l), .func (.func 54) [.ptr r 0]] K (boolD (l.any g)) K := by
 refine Fn.ev ?_
 refine Fn_of (pn rfl) rfl (show code 53 = some c53 from rfl) rfl ?_; simp only [List.length_cons,List.length_nil,List.cons_append,List.nil_append,simprocAttr]
 obtain ⟨_, K', he, ⟨q, rfl, hq⟩, e'⟩ := fn_out (idxf_ev K.length K l r g hl hc)
 rw [e'] at he
 (iterate 3 refine w_s trivial ?_)
 refine w_1 he hq ?_
 refine w_r trivial ?_
 exact ans_cut rfl rfl ⟨rfl, rfl⟩
theorem not_any (l : List J) (f : J → Bool) : (!(l.any fun x => !f x)) = l.all f := by
 induction l with
 | nil => rfl
 | cons a l ih => rw [List.any_cons, List.all_cons, ← ih]; cases f a <;> simp
mutual
theorem goodP_ev : ∀ (n : Nat) (lim : Nat) (H : AHeap) (j : J), n ≤ 1000 → wt j ≤ 100000000000 → Ev (envN code primsF) 34 lim [.d j.d, intD n] H (boolD (goodB n j)) H
 | 0, lim, H, j, _, _ => by
  refine Fn.ev ?_
  refine Fn_of (pn rfl) rfl (show code 34 = some c34 from rfl) rfl ?_; simp only [List.length_cons,List.length_nil,List.cons_append,List.nil_append,simprocAttr]
  have hjd := jd j
  obtain ⟨J', hJ⟩ : ∃ J', H ++ [AObj.cells (jC j)] = J' := ⟨_, rfl⟩
  obtain ⟨K, hK⟩ : ∃ K, J' ++ [AObj.cells [intD (0 : Nat)]] = K := ⟨_, rfl⟩
  have gK2 : K[J'.length]? = some (.cells [.d (.int .i64 (0 : Nat))]) := by rw [← hK]; exact get_last _ _
  have f0 : (((0 : Nat) : Int) > 0) = False := eq_false (by omega)
  (iterate 2 refine w_s (j_ hjd (j_ hJ hK)) ?_)
  refine w_r (j_ gK2 f0) ?_
  exact ans_cut rfl rfl ⟨rfl, rfl⟩
 | n + 1, lim, H, j, hn, hj => by
  refine Fn.ev ?_
  refine Fn_of (pn rfl) rfl (show code 34 = some c34 from rfl) rfl ?_; simp only [List.length_cons,List.length_nil,List.cons_append,List.nil_append,simprocAttr]
  have hjd := jd j
  obtain ⟨J', hJ⟩ : ∃ J', H ++ [AObj.cells (jC j)] = J' := ⟨_, rfl⟩
  have gJ : J'[H.length]? = some (.cells (jC j)) := by rw [← hJ]; exact get_last _ _
  obtain ⟨K, hK⟩ : ∃ K, J' ++ [AObj.cells [intD (n + 1 : Nat)]] = K := ⟨_, rfl⟩
  have gK : K[H.length]? = some (.cells (jC j)) := by rw [← hK]; exact get_more _ gJ
  have gK2 : K[J'.length]? = some (.cells [.d (.int .i64 (n + 1 : Nat))]) := by rw [← hK]; exact get_last _ _
  have f0 : (((n + 1 : Nat) : Int) > 0) = True := eq_true (by omega)
  have he := shape_ev H.length K j (sh_of hj)
  simp only [hjd] at he
  have hr : goodB (n + 1) j = (shapedB j && j.l.all (goodB n)) := rfl
  have hall := not_any j.l (goodB n)
  have hg := has_ev H.length K j.l J'.length (fun x => !goodB n x) (sh_of hj).2.2.1 fun y hy => by
   have hd' : wt y ≤ 100000000000 := by have := wt_mem hy; omega
   exact inner_ev n K.length K y J'.length (by omega) hd' gK2
  (iterate 2 refine w_s (j_ hjd (j_ hJ hK)) ?_)
  (iterate 1 refine w_s trivial ?_)
  rw [hr]
  cases hs : shapedB j with
  | false =>
   rw [hs] at he
   refine w_1 he (j_ gK (j_ gK2 f0)) ?_
   refine w_r trivial ?_
   exact ans_cut rfl rfl ⟨rfl, rfl⟩
  | true =>
   rw [hs] at he
   rw [← hall]
   generalize (j.l.any fun x => !goodB n x) = b at *
   refine w_2 he hg (j_ gK (j_ gK2 f0)) ?_
   refine w_r trivial ?_
   exact ans_cut rfl rfl ⟨rfl, rfl⟩
theorem inner_ev : ∀ (n : Nat) (lim : Nat) (H : AHeap) (j : J) (r : Nat), n ≤ 1000 → wt j ≤ 100000000000 → H[r]? = some (.cells [.d (.int .i64 (n + 1 : Nat))]) → Ev (envN code primsF) 54 lim [.d j.d, .ptr r 0] H (boolD (!goodB n j)) H
 | n, lim, H, j, r, hn, hj, gr => by
  refine Fn.ev ?_
  refine Fn_of (pn rfl) rfl (show code 54 = some c54 from rfl) rfl ?_; simp only [List.length_cons,List.length_nil,List.cons_append,List.nil_append,simprocAttr]
  have hjd := jd j
  obtain ⟨K, hK⟩ : ∃ K, H ++ [AObj.cells (jC j)] = K := ⟨_, rfl⟩
  have gK : K[H.length]? = some (.cells (jC j)) := by rw [← hK]; exact get_last _ _
  have gK2 : K[r]? = some (.cells [.d (.int .i64 (n + 1 : Nat))]) := by rw [← hK]; exact get_more _ gr
  have w2 : IntKind.i64.wrap (((n + 1 : Nat) : Int) - 1) = (n : Int) := by rw [w64 (by omega) (by omega)]; omega
  have he := goodP_ev n H.length K j hn hj
  simp only [hjd] at he
  (iterate 2 refine w_s (j_ hjd hK) ?_)
  (iterate 1 refine w_s trivial ?_)
  refine w_1 he (j_ gK (j_ gK2 w2)) ?_
  refine w_r trivial ?_
  exact ans_cut rfl rfl ⟨rfl, rfl⟩
end
theorem Good_ev (lim : Nat) (H : AHeap) (j : J) (hj : wt j ≤ 100000000000) : Ev (envN code primsF) 20 lim [.d j.d] H (boolD (goodB 12 j)) H := by
 refine Fn.ev ?_
 refine Fn_of (pn rfl) rfl (show code 20 = some c20 from rfl) rfl ?_; simp only [List.length_cons,List.length_nil,List.cons_append,List.nil_append,simprocAttr]
 have hjd := jd j
 obtain ⟨K, hK⟩ : ∃ K, H ++ [AObj.cells (jC j)] = K := ⟨_, rfl⟩
 have gK : K[H.length]? = some (.cells (jC j)) := by rw [← hK]; exact get_last _ _
 have he : Ev (envN code primsF) 34 H.length [.d j.d, intD 12] K (boolD (goodB 12 j)) K := goodP_ev 12 H.length K j (by omega) hj
 simp only [hjd] at he
 (iterate 2 refine w_s (j_ hjd hK) ?_)
 (iterate 1 refine w_s trivial ?_)
 refine w_1 he gK ?_
 refine w_r trivial ?_
 exact ans_cut rfl rfl ⟨rfl, rfl⟩
end Go.Proofs.YtmhmjlfajlpabaaDoor
set_option maxRecDepth 100000
namespace Go.Proofs.YtmhmjlfajlpabaaDoor
open Go Go.Abs Go.Lib
def orderS (j : J) : J := if goodB 12 j then orderJ j else J.zero
def encV : Except Nat Tx → AV
 | .ok e => .tuple [.d (.slice (e.map byteD)), intD 0]
 | .error c => .tuple [.d (.slice []), intD c]
end Go.Proofs.YtmhmjlfajlpabaaDoor
set_option maxRecDepth 100000
namespace Go.Proofs.YtmhmjlfajlpabaaDoor
open Go Go.Abs Go.Lib
abbrev bF (b : Tx) : AV := .fslice (b.map byteD)
theorem bool_ev (lim : Nat) (H : AHeap) (b : Tx) (t : Bool) (hb : b.length ≤ 10000000000000) : Ev (envN code primsF) 64 lim [bF b, boolD t] H (bF (b ++ (if t = true then [116, 114, 117, 101] else [102, 97, 108, 115, 101]))) H := by
 refine Fn.ev ?_
 refine Fn_of (pn rfl) rfl (show code 64 = some c64 from rfl) rfl ?_; simp only [List.length_cons,List.length_nil,List.cons_append,List.nil_append,simprocAttr]
 have hz := headSz_bytes b
 have n1 : (b.length + (0 + 1 + 1 + 1 + 1)) * 2 ≤ 70368744177664 := by omega
 have n2 : (b.length + (0 + 1 + 1 + 1 + 1 + 1)) * 2 ≤ 70368744177664 := by omega
 cases t with
 | true =>
  refine w_r (j_ hz (j_ n1 (@List.length_map.{0,0}))) ?_
  exact ans_cut (vs := [bF (b ++ [116, 114, 117, 101])]) (by simp only [resV,zz,simprocAttr]; simp [bF]) rfl ⟨rfl, rfl⟩
 | false =>
  refine w_r (j_ hz (j_ n2 (@List.length_map.{0,0}))) ?_
  exact ans_cut (vs := [bF (b ++ [102, 97, 108, 115, 101])]) (by simp only [resV,zz,simprocAttr]; simp [bF]) rfl ⟨rfl, rfl⟩
theorem boolA_ev (lim : Nat) (H : AHeap) (b : Tx) (t : Bool) (hb : b.length ≤ 10000000000000) : Ev (envN code primsF) 45 lim [bF b, boolD t] H (bF (b ++ (if t = true then [116, 114, 117, 101] else [102, 97, 108, 115, 101]))) H := by
 refine Fn.ev ?_
 refine Fn_of (pn rfl) rfl (show code 45 = some c45 from rfl) rfl ?_; simp only [List.length_cons,List.length_nil,List.cons_append,List.nil_append,simprocAttr]
 have h := bool_ev H.length H b t hb
 refine w_r trivial ?_
 refine w_1 h trivial ?_
 refine w_r trivial ?_
 exact ans_cut (vs := [bF (b ++ _)]) rfl rfl ⟨rfl, rfl⟩
theorem l10_mul (x : Nat) (h : x < 1000000) : binInt .mul .i64 (x : Int) 78913 = some (.int .i64 ((x * 78913 : Nat) : Int)) := by
 simp only [binInt]
 rw [show ((x : Int) * 78913) = ((x * 78913 : Nat) : Int) by omega, w64n _ (by omega)]
theorem l10_shr (x : Nat) : shiftInt .shr .i64 ((x * 78913 : Nat) : Int) 18 = some (.int .i64 ((x * 78913 / 262144 : Nat) : Int)) := by
 unfold shiftInt
 rw [if_neg (by decide)]
 show some (D.int .i64 (Int.fdiv ((x * 78913 : Nat) : Int) (2 ^ 18))) = _
 rw [Int.fdiv_eq_ediv_of_nonneg _ (by decide)]
 rfl
theorem l10_ev (lim : Nat) (H : AHeap) (x : Nat) (h : x ≤ 64) : Ev (envN code primsF) 101 lim [intD x] H (intD ((Lib.l10 x : Nat) : Int)) H := by
 refine Fn.ev ?_
 refine Fn_of (pn rfl) rfl (show code 101 = some c101 from rfl) rfl ?_; simp only [List.length_cons,List.length_nil,List.cons_append,List.nil_append,simprocAttr]
 have f1 := l10_mul x (by omega)
 unfold Lib.l10
 refine w_r (j_ f1 @l10_shr) ?_
 exact ans_cut rfl rfl ⟨rfl, rfl⟩
theorem b2_ev (lim : Nat) (H : AHeap) (t : Bool) : Ev (envN code primsF) 102 lim [boolD t] H (intD (if t = true then 1 else 0)) H := by
 refine Fn.ev ?_
 refine Fn_of (pn rfl) rfl (show code 102 = some c102 from rfl) rfl ?_; simp only [List.length_cons,List.length_nil,List.cons_append,List.nil_append,simprocAttr]
 cases t <;> (refine w_r trivial ?_; exact ans_cut rfl rfl ⟨rfl, rfl⟩)
theorem bitLen_le {u : Nat} (h : u < 18446744073709551616) : Lib.bitLen u ≤ 64 := Lib.bitLen_le u 64 (Nat.le_refl _) h
theorem pow_at {i : Nat} (h : i < 20) : tab3[i]? = some (.int .u64 ((10 ^ i : Nat) : Int)) := by
 unfold tab3
 rw [List.getElem?_map, List.getElem?_range h]; rfl
theorem many_ev (lim : Nat) (H : AHeap) (u : Nat) (h1 : 1 ≤ u) (h2 : u < 18446744073709551616) : Ev (envN code primsF) 93 lim [.d (.int .u64 u)] H (intD (Lib.nDigits u)) H := by
 refine Fn.ev ?_
 refine Fn_of (pn rfl) rfl (show code 93 = some c93 from rfl) rfl ?_; simp only [List.length_cons,List.length_nil,List.cons_append,List.nil_append,simprocAttr]
 have hq := Lib.numDigits_eq u h1 h2
 have hb := bitLen_le h2
 have a1 : Ev (envN code primsF) 91 H.length [.d (.int .u64 u)] H (intD ((Lib.bitLen u : Nat) : Int)) H := Ev_prim (F := len64F) POK.len (by
  unfold len64F
  simp only
  rw [if_pos (by omega)]; rfl)
 have a2 := l10_ev H.length H (Lib.bitLen u) hb
 have hp := pow_at (i := Lib.l10 (Lib.bitLen u)) (by omega)
 generalize Lib.l10 (Lib.bitLen u) = x at *
 obtain ⟨hq, hx⟩ := hq
 rw [← hq]
 have hx' := hx
 have a3 := b2_ev H.length H (decide (10 ^ x ≤ u))
 have f1 : decide ((u : Int) ≥ ((10 ^ x : Nat) : Int)) = decide (10 ^ x ≤ u) := decide_eq_decide.mpr (by omega)
 refine w_r trivial ?_
 refine w_2 a1 a2 trivial ?_
 have hi : (0 : Int) ≤ (x : Int) ∧ (x : Int) < (20 : Int) := by omega
 have w1 : IntKind.i64.wrap ((x : Int) + (if decide (10 ^ x ≤ u) = true then 1 else 0)) = ((x + (if 10 ^ x ≤ u then 1 else 0) : Nat) : Int) := by
  rw [w64 (by split <;> omega) (by split <;> omega)]
  by_cases h : 10 ^ x ≤ u <;> simp [h]
 refine W_sq ?_
 have hp' : (List.drop (x * 1) tab3)[0]? = some (.int .u64 ((10 ^ x : Nat) : Int)) := by rw [Nat.mul_one, List.getElem?_drop]; exact hp
 clear hp hq
 generalize 10 ^ x = p at *
 have f2 : ((u : Int) ≥ (p : Int)) = (p ≤ u) := propext (by omega)
 by_cases hpu : p ≤ u
 ·have f3 : ((u : Int) ≥ (p : Int)) = True := eq_true (by omega)
  simp only [hpu, decide_true, if_true] at a3 w1 ⊢
  refine w_1 a3 (j_ hp' (j_ hi (j_ f3 w1))) ?_
  refine w_r trivial ?_
  exact ans_cut rfl rfl ⟨rfl, rfl⟩
 ·have f3 : ((u : Int) ≥ (p : Int)) = False := eq_false (by omega)
  simp only [hpu, decide_false, Bool.false_eq_true, if_false] at a3 w1 ⊢
  refine w_1 a3 (j_ hp' (j_ hi (j_ f3 w1))) ?_
  refine w_r trivial ?_
  exact ans_cut rfl rfl ⟨rfl, rfl⟩
theorem small_dec {n : Nat} (h : n < 100) : smallS n = Lib.decDigits n := by
 unfold smallS
 split
 ·rename_i h1; rw [Lib.decDigits_one h1]
 ·rename_i h1; rw [Lib.decDigits_two h1 h]
theorem uint_ev (lim : Nat) (H : AHeap) (b : Tx) (u : Nat) (h2 : u < 18446744073709551616) (hb : b.length ≤ 10000000000000) : Ev (envN code primsF) 77 lim [bF b, .d (.int .u64 u), .d (.int .i64 10)] H (bF (b ++ Lib.decDigits u)) H := by
 refine Fn.ev ?_
 refine Fn_of (pn rfl) rfl (show code 77 = some c77 from rfl) rfl ?_; simp only [List.length_cons,List.length_nil,List.cons_append,List.nil_append,simprocAttr]
 have hz := headSz_bytes b
 by_cases hs : u < 100
 ·have f1 : ((u : Int) < 100) = True := eq_true (by omega)
  have w1 : IntKind.i64.wrap (u : Int) = (u : Int) := w64 (by omega) (by omega)
  have hl : (smallS u).length ≤ 2 := by unfold smallS; split <;> simp
  have a1 : Ev (envN code primsF) 92 H.length [.d (.int .i64 u)] H (.d (.str (smallS u))) H := Ev_prim (F := smallF) POK.small (by
   unfold smallF
   simp only
   rw [if_pos (by omega)]; simp)
  have n1 : (b.length + (smallS u).length) * 2 ≤ 70368744177664 := by omega
  rw [← small_dec hs]
  generalize smallS u = t at *
  refine w_r f1 ?_
  have hz2 := headSz_bytes t
  refine w_1 a1 (j_ w1 (j_ hz (j_ hz2 (j_ n1 (@List.length_map.{0,0}))))) ?_
  refine w_r trivial ?_
  exact ans_cut (vs := [bF (b ++ t)]) (by simp only [resV,zz,simprocAttr]; simp [bF]) rfl ⟨rfl, rfl⟩
 ·have f1 : ((u : Int) < 100) = False := eq_false (by omega)
  (iterate 12 refine w_s f1 ?_)
  generalize hZ : ([AV.d (D.int IntKind.u8 0), AV.d (D.int IntKind.u8 0), AV.d (D.int IntKind.u8 0), AV.d (D.int IntKind.u8 0), AV.d (D.int IntKind.u8 0), AV.d (D.int IntKind.u8 0), AV.d (D.int IntKind.u8 0), AV.d (D.int IntKind.u8 0), AV.d (D.int IntKind.u8 0), AV.d (D.int IntKind.u8 0), AV.d (D.int IntKind.u8 0), AV.d (D.int IntKind.u8 0), AV.d (D.int IntKind.u8 0), AV.d (D.int IntKind.u8 0), AV.d (D.int IntKind.u8 0), AV.d (D.int IntKind.u8 0), AV.d (D.int IntKind.u8 0), AV.d (D.int IntKind.u8 0), AV.d (D.int IntKind.u8 0), AV.d (D.int IntKind.u8 0), AV.d (D.int IntKind.u8 0), AV.d (D.int IntKind.u8 0), AV.d (D.int IntKind.u8 0), AV.d (D.int IntKind.u8 0)] : List AV) = Z
  have hZl : Z.length = 24 := by rw [← hZ]; rfl
  have hZr : Z = List.replicate 24 (AV.d (.int .u8 0)) := by rw [← hZ]; rfl
  clear hZ
  have hn : Lib.nDigits u ≤ 20 := nDigits_le 19 u (by omega)
  have hdl := Lib.decDigits_length u
  have a1 := many_ev H.length (H ++ [.cells Z]) u (by omega) h2
  have g1 : (H ++ [AObj.cells Z])[H.length]? = some (.cells Z) := by simp
  generalize hN : Lib.nDigits u = N at *
  generalize hW : splice Z 0 ((Lib.decDigits u).map fun b => AV.d (byteD b)) = W
  have hO : (H ++ [AObj.cells Z]).set H.length (.cells W) = H ++ [.cells W] := by simp
  have a2 : Ev (envN code primsF) 94 H.length [.oslice H.length 0 N 24 1, .d (.int .u64 u)] (H ++ [.cells Z]) (.tuple []) (H ++ [.cells W]) := Ev_prim (F := fbF) POK.fb (by
   unfold fbF
   simp only [g1]
   rw [if_pos (by
    refine ⟨Nat.le_refl _, by omega, by omega, by simp [hN], by omega, by omega, ?_⟩
    rw [hZr, List.take_replicate, Nat.min_eq_left (by omega)]
    exact AV.beqs_self _), Int.toNat_natCast, hW, hO])
  generalize hX : Lib.decDigits u = X at *
  have hWl : W.length = 24 := by rw [← hW]; simp [splice, hZl]; omega
  have m1 : arrLen (H ++ [.cells Z]) H.length = 24 := by simp [arrLen, hZl]
  have m2 : arrLen (H ++ [.cells W]) H.length = 24 := by simp [arrLen, hWl]
  have g2 : (H ++ [AObj.cells W])[H.length]? = some (.cells W) := by simp
  have hc : chunks 1 false N W = some (X.map byteD) := by rw [← hW, ← hdl]; have := chunks_bytes X (Z.drop X.length); rw [List.map_map] at this; simpa [splice, Function.comp_def] using this
  have m3 : ((N : Int) - 0).toNat = N := by omega
  have l1 : N * 1 ≤ W.length := by omega
  have hz2 := headSz_bytes X
  have n1 : (b.length + X.length) * 2 ≤ 70368744177664 := by omega
  have q1 : (0 : Int) ≤ (N : Int) ∧ (N : Int) ≤ 24 := by omega
  refine W_sq ?_
  refine w_1 a1 trivial ?_
  refine W_sq ?_
  refine w_1 a2 (j_ m1 (j_ q1 m3)) ?_
  refine W_sq ?_
  (apply W_rg; focus (intro k; simp (maxSteps := 100000000) only [zz,zd,simprocAttr,m2,m3,l1,q1,g2,hc,hz,hz2,n1,List.length_map]; (first | done | with_reducible exact rfl))) <;> (try simp only [zp,simprocAttr])
  refine w_r trivial ?_
  exact ans_cut (vs := [bF (b ++ X)]) (by simp only [resV,zz,simprocAttr]; simp [bF]) rfl ⟨rfl, rfl⟩
theorem neg_u64 (n : Int) (h1 : -9223372036854775808 ≤ n) (h : n < 0) : IntKind.u64.wrap (0 - IntKind.u64.wrap n) = ((n.natAbs : Nat) : Int) := by
 simp only [IntKind.wrap, IntKind.bits, IntKind.signed]
 simp
 omega
theorem int_ev (lim : Nat) (H : AHeap) (b : Tx) (n : Int) (h1 : -9007199254740991 ≤ n) (h2 : n ≤ 9007199254740991) (hb : b.length + 1 ≤ 10000000000000) : Ev (envN code primsF) 65 lim [bF b, .d (.int .i64 n), .d (.int .i64 10)] H (bF (b ++ Lib.itoa n)) H := by
 refine Fn.ev ?_
 refine Fn_of (pn rfl) rfl (show code 65 = some c65 from rfl) rfl ?_; simp only [List.length_cons,List.length_nil,List.cons_append,List.nil_append,simprocAttr]
 have hz := headSz_bytes b
 unfold Lib.itoa
 by_cases h : n < 0
 ·have f1 : (n < 0) = True := eq_true h
  have w1 := neg_u64 n (by omega) h
  have n1 : (b.length + (0 + 1)) * 2 ≤ 70368744177664 := by omega
  have a1 := uint_ev H.length H (b ++ [45]) n.natAbs (by omega) (by simp; omega)
  have ee : bF (b ++ [45]) = .fslice (b.map byteD ++ [D.int .u8 45]) := by simp [bF, byteD]
  rw [ee] at a1
  rw [if_pos h]
  refine w_r (j_ f1 (j_ w1 (j_ hz (j_ n1 (@List.length_map.{0,0}))))) ?_
  refine w_1 a1 trivial ?_
  refine w_r trivial ?_
  exact ans_cut (vs := [bF (b ++ [45] ++ Lib.decDigits n.natAbs)]) rfl rfl ⟨by simp, rfl⟩
 ·have f1 : (n < 0) = False := eq_false h
  have w1 : IntKind.u64.wrap n = ((n.toNat : Nat) : Int) := by
   simp only [IntKind.wrap, IntKind.bits, IntKind.signed]; simp; omega
  have a1 := uint_ev H.length H b n.toNat (by omega) (by omega)
  rw [if_neg h]
  refine w_r (j_ f1 w1) ?_
  refine w_1 a1 trivial ?_
  refine w_r trivial ?_
  exact ans_cut (vs := [bF (b ++ _)]) rfl rfl ⟨rfl, rfl⟩
theorem intA_ev (lim : Nat) (H : AHeap) (b : Tx) (n : Int) (h1 : -9007199254740991 ≤ n) (h2 : n ≤ 9007199254740991) (hb : b.length + 1 ≤ 10000000000000) : Ev (envN code primsF) 46 lim [bF b, .d (.int .i64 n), .d (.int .i64 10)] H (bF (b ++ Lib.itoa n)) H := by
 refine Fn.ev ?_
 refine Fn_of (pn rfl) rfl (show code 46 = some c46 from rfl) rfl ?_; simp only [List.length_cons,List.length_nil,List.cons_append,List.nil_append,simprocAttr]
 have h := int_ev H.length H b n h1 h2 hb
 refine w_r trivial ?_
 refine w_1 h trivial ?_
 refine w_r trivial ?_
 exact ans_cut (vs := [bF (b ++ _)]) rfl rfl ⟨rfl, rfl⟩
end Go.Proofs.YtmhmjlfajlpabaaDoor
set_option maxRecDepth 100000
namespace Go.Proofs.YtmhmjlfajlpabaaDoor
open Go Go.Abs Go.Lib
theorem shr4 (c : Nat) : shiftInt .shr .u8 (c : Int) 4 = some (.int .u8 ((c / 16 : Nat) : Int)) := by
 unfold shiftInt
 rw [if_neg (by decide)]
 show some (D.int .u8 (Int.fdiv (c : Int) (2 ^ 4))) = _
 rw [Int.fdiv_eq_ediv_of_nonneg _ (by decide)]
 rfl
theorem and15u (b : Nat) (hb : b < 256) : binInt .and .u8 (b : Int) 15 = some (.int .u8 ((b % 16 : Nat) : Int)) := by
 have := b_and .u8 b 15
 rw [show IntKind.u8.bits = 8 from rfl, Nat.mod_eq_of_lt (a := b) (show b < 2 ^ 8 by omega), Nat.mod_eq_of_lt (a := 15) (show 15 < 2 ^ 8 by omega), Nat.and_two_pow_sub_one_eq_mod b 4, u8w _ (by omega)] at this
 exact this
set_option maxHeartbeats 1000000 in
--
theorem quote_ev (lim : Nat) (H : AHeap) (b s : Tx) (hb : b.length ≤ 10000000000000) (hs : s.length ≤ 100000000000) : Ev (envN code primsF) 47 lim [bF b, .d (.str s)] H (bF (b ++ quoteB s)) H := by
 refine Fn.ev ?_
 refine Fn_of (pn rfl) rfl (show code 47 = some c47 from rfl) rfl ?_; simp only [List.length_cons,List.length_nil,List.cons_append,List.nil_append,simprocAttr]
 have hz := headSz_bytes b
 have n0 : (b.length + (0 + 1)) * 2 ≤ 70368744177664 := by omega
 refine w_r (j_ hz (j_ n0 (@List.length_map.{0,0}))) ?_
 refine W_lp (fun k st => ∃ (i : Nat) (T : List D), i ≤ s.length ∧ k = s.length - i ∧ T = (b ++ 34 :: (s.take i).flatMap escB).map byteD ∧ ∃ x : Nat → AV, st = ⟨[.fslice T, .d (.str s), x 2, x 3, x 4, x 5, x 6, x 7, x 8, x 9, .fslice [], intD s.length, intD i, x 13, x 14, x 15, x 16, x 17], H⟩) ?_ _ _ ⟨0, _, Nat.zero_le _, rfl, by simp [byteD], ex_st _ _ _ rfl⟩
 rintro k _ ⟨i, T, hi, rfl, hT, x, rfl⟩
 have hfl := flat_len (s.take i)
 have htl : (s.take i).length ≤ 100000000000 := by simp; omega
 have hTz : headSz 1 T = true := by rw [hT]; exact headSz_bytes _
 have hTl : T.length ≤ 11000000000000 := by rw [hT, List.length_map, List.length_append, List.length_cons]; omega
 by_cases t0 : i < s.length
 ·have f1 : ((i : Int) < (s.length : Int)) = True := eq_true (by omega)
  have w1 : IntKind.i64.wrap ((i : Int) + 1) = ((i + 1 : Nat) : Int) := wsucc (by omega)
  obtain ⟨c, hc⟩ : ∃ c, s[i]? = some c := ⟨_, List.getElem?_eq_getElem t0⟩
  have hcl := c.toNat_lt
  have hx := flat_succ hc
  have next : ∀ {st : St}, (∃ x : Nat → AV, st = ⟨[.fslice (T ++ (escB c).map byteD), .d (.str s), x 2, x 3, x 4, x 5, x 6, x 7, x 8, x 9, .fslice [], intD s.length, intD ((i + 1 : Nat) : Int), x 13, x 14, x 15, x 16, x 17], H⟩) →
    ∃ m, m < s.length - i ∧ ∃ (i : Nat) (T : List D), i ≤ s.length ∧ m = s.length - i ∧ T = (b ++ 34 :: (s.take i).flatMap escB).map byteD ∧ ∃ x : Nat → AV, st = ⟨[.fslice T, .d (.str s), x 2, x 3, x 4, x 5, x 6, x 7, x 8, x 9, .fslice [], intD s.length, intD i, x 13, x 14, x 15, x 16, x 17], H⟩ :=
   fun h => ⟨s.length - (i + 1), by omega, i + 1, _, t0, rfl, by rw [hT, ← hx]; simp, h⟩
  have n1 : (T.length + (0 + 1)) * 2 ≤ 70368744177664 := by omega
  have n2 : (T.length + (0 + 1 + 1)) * 2 ≤ 70368744177664 := by omega
  have n6 : (T.length + (0 + 1 + 1 + 1 + 1 + 1 + 1)) * 2 ≤ 70368744177664 := by omega
  clear hT hfl htl hx
  by_cases k1 : c = 34
  ·have c1 := u8_t (n := 34) k1 rfl
   have e : escB c = [92, c] := by unfold escB; rw [if_pos (.inl k1)]
   rw [e] at next
   refine w_r (j_ f1 (j_ hc (j_ @byteD.eq_1 (j_ hTz (j_ w1 (j_ c1 n2)))))) ?_
   exact next (ex_st _ _ _ rfl)
  have c1 := u8_f (n := 34) k1 rfl
  by_cases k2 : c = 92
  ·have c2 := u8_t (n := 92) k2 rfl
   have e : escB c = [92, c] := by unfold escB; rw [if_pos (.inr k2)]
   rw [e] at next
   refine w_r (j_ f1 (j_ hc (j_ @byteD.eq_1 (j_ hTz (j_ w1 (j_ c1 (j_ c2 n2))))))) ?_
   exact next (ex_st _ _ _ rfl)
  have c2 := u8_f (n := 92) k2 rfl
  have hne : ¬ (c = 34 ∨ c = 92) := fun h => h.elim k1 k2
  by_cases k3 : c = 8
  ·have c3 := u8_t (n := 8) k3 rfl
   have e : escB c = [92, 98] := by unfold escB; rw [if_neg hne, if_pos k3]
   rw [e] at next
   refine w_r (j_ f1 (j_ hc (j_ @byteD.eq_1 (j_ hTz (j_ w1 (j_ c1 (j_ c2 (j_ c3 n2)))))))) ?_
   exact next (ex_st _ _ _ rfl)
  have c3 := u8_f (n := 8) k3 rfl
  by_cases k4 : c = 9
  ·have c4 := u8_t (n := 9) k4 rfl
   have e : escB c = [92, 116] := by unfold escB; rw [if_neg hne, if_neg k3, if_pos k4]
   rw [e] at next
   refine w_r (j_ f1 (j_ hc (j_ @byteD.eq_1 (j_ hTz (j_ w1 (j_ c1 (j_ c2 (j_ c3 (j_ c4 n2))))))))) ?_
   exact next (ex_st _ _ _ rfl)
  have c4 := u8_f (n := 9) k4 rfl
  by_cases k5 : c = 10
  ·have c5 := u8_t (n := 10) k5 rfl
   have e : escB c = [92, 110] := by unfold escB; rw [if_neg hne, if_neg k3, if_neg k4, if_pos k5]
   rw [e] at next
   refine w_r (j_ f1 (j_ hc (j_ @byteD.eq_1 (j_ hTz (j_ w1 (j_ c1 (j_ c2 (j_ c3 (j_ c4 (j_ c5 n2)))))))))) ?_
   exact next (ex_st _ _ _ rfl)
  have c5 := u8_f (n := 10) k5 rfl
  by_cases k6 : c = 12
  ·have c6 := u8_t (n := 12) k6 rfl
   have e : escB c = [92, 102] := by unfold escB; rw [if_neg hne, if_neg k3, if_neg k4, if_neg k5, if_pos k6]
   rw [e] at next
   refine w_r (j_ f1 (j_ hc (j_ @byteD.eq_1 (j_ hTz (j_ w1 (j_ c1 (j_ c2 (j_ c3 (j_ c4 (j_ c5 (j_ c6 n2))))))))))) ?_
   exact next (ex_st _ _ _ rfl)
  have c6 := u8_f (n := 12) k6 rfl
  by_cases k7 : c = 13
  ·have c7 := u8_t (n := 13) k7 rfl
   have e : escB c = [92, 114] := by unfold escB; rw [if_neg hne, if_neg k3, if_neg k4, if_neg k5, if_neg k6, if_pos k7]
   rw [e] at next
   refine w_r (j_ f1 (j_ hc (j_ @byteD.eq_1 (j_ hTz (j_ w1 (j_ c1 (j_ c2 (j_ c3 (j_ c4 (j_ c5 (j_ c6 (j_ c7 n2)))))))))))) ?_
   exact next (ex_st _ _ _ rfl)
  have c7 := u8_f (n := 13) k7 rfl
  by_cases k8 : c.toNat < 32
  ·have c8 : ((c.toNat : Int) < 32) = True := eq_true (by omega)
   have e : escB c = [92, 117, 48, 48, hexC (c.toNat / 16), hexC (c.toNat % 16)] := by unfold escB; rw [if_neg hne, if_neg k3, if_neg k4, if_neg k5, if_neg k6, if_neg k7, if_pos k8]
   rw [e] at next
   have p1 := shr4 c.toNat
   have p2 := and15u c.toNat hcl
   have p3 := hex_at ⟨c.toNat / 16, by omega⟩
   have p4 := hex_at ⟨c.toNat % 16, by omega⟩
   simp only [hexs] at p3 p4
   refine w_r (j_ f1 (j_ hc (j_ @byteD.eq_1 (j_ hTz (j_ w1 (j_ c1 (j_ c2 (j_ c3 (j_ c4 (j_ c5 (j_ c6 (j_ c7 (j_ c8 (j_ n6 (j_ p1 (j_ p2 (j_ p3 p4))))))))))))))))) ?_
   exact next (ex_st _ _ _ rfl)
  have c8 : ((c.toNat : Int) < 32) = False := eq_false (by omega)
  have e : escB c = [c] := by unfold escB; rw [if_neg hne, if_neg k3, if_neg k4, if_neg k5, if_neg k6, if_neg k7, if_neg k8]
  rw [e] at next
  refine w_r (j_ f1 (j_ hc (j_ @byteD.eq_1 (j_ hTz (j_ w1 (j_ c1 (j_ c2 (j_ c3 (j_ c4 (j_ c5 (j_ c6 (j_ c7 (j_ c8 n1))))))))))))) ?_
  exact next (ex_st _ _ _ rfl)
 ·obtain rfl : i = s.length := by omega
  have f1 : ((s.length : Int) < (s.length : Int)) = False := eq_false (by omega)
  rw [List.take_length] at hT
  have n1 : (T.length + (0 + 1)) * 2 ≤ 70368744177664 := by omega
  have e : b ++ quoteB s = (b ++ 34 :: s.flatMap escB) ++ [34] := by unfold quoteB; simp
  rw [e, bF, List.map_append, ← hT]
  clear hT e
  refine w_r (j_ f1 (j_ hTz n1)) ?_
  exact ans_cut (vs := [.fslice (T ++ [byteD 34])]) rfl rfl ⟨rfl, rfl⟩
end Go.Proofs.YtmhmjlfajlpabaaDoor
namespace Go.Proofs.YtmhmjlfajlpabaaDoor
open Go Go.Abs
theorem sumf_take {α : Type} (f : α → Nat) : ∀ {P : List α} {i : Nat} {p : α}, P[i]? = some p → ((P.take i).map f).sum + f p ≤ (P.map f).sum
 | [], i, p, h => by cases h
 | a :: P, 0, p, h => by
  simp only [List.getElem?_cons_zero, Option.some.injEq] at h
  subst h
  simp
 | a :: P, i + 1, p, h => by
  have := sumf_take f (P := P) (i := i) (p := p) (by simpa using h)
  simp only [List.take_succ_cons, List.map_cons, List.sum_cons]; omega
theorem map_sum {f : Nat} {j : J} (h : goodB (f + 1) j = true) (h5 : j.k = 5) : ((byKeys j.ks).map fun i => 32 * wt (j.l.getD i J.zero) + 6 * (j.ks.getD i []).length + 4).sum + 32 ≤ 32 * wt j := by
 obtain ⟨hs, ha⟩ := Bool.and_eq_true_iff.1 (show (shapedB j && j.l.all (goodB f)) = true from h)
 have hw := wt_eq j
 obtain ⟨hl, hd⟩ := shaped_map hs h5
 rw [sum_pts wt List.length, perm_sum ((byKeys_perm j.ks).map fun i => wt (j.l.getD i J.zero)), perm_sum ((byKeys_perm j.ks).map fun i => (j.ks.getD i []).length), byKeys_length]
 have e1 : (List.range j.ks.length).map (fun i => wt (j.l.getD i J.zero)) = j.l.map wt := by
  rw [hl, show (fun i => wt (j.l.getD i J.zero)) = wt ∘ (fun i => j.l.getD i J.zero) from rfl, ← List.map_map, range_getD]
 have e2 : (List.range j.ks.length).map (fun i => (j.ks.getD i []).length) = j.ks.map List.length := by
  rw [show (fun i => (j.ks.getD i []).length) = List.length ∘ (fun i => j.ks.getD i []) from rfl, ← List.map_map, range_getD]
 rw [e1, e2, wts_sum]
 have h3 := len_sum j.ks
 omega
theorem wMap_step {f : Nat} {j : J} (h : goodB (f + 1) j = true) (h5 : j.k = 5) (b : Tx) {i p : Nat} (hp : (byKeys j.ks)[i]? = some p) :
  (wMap (writeS f) j.ks j.l true b ((byKeys j.ks).take i)).length + 32 * wt (j.l.getD p J.zero) + 6 * (j.ks.getD p []).length + 4 + 32 ≤ b.length + 32 * wt j := by
 have hm := map_sum h h5
 obtain ⟨hs, ha⟩ := Bool.and_eq_true_iff.1 (show (shapedB j && j.l.all (goodB f)) = true from h)
 have hall : ∀ y ∈ j.l, goodB f y = true := fun y hy => List.all_eq_true.1 ha y hy
 obtain ⟨hl, hd⟩ := shaped_map hs h5
 have h1 := wMap_le (w := writeS f) (ks := j.ks) (l := j.l) ((byKeys j.ks).take i) true b fun i hi b => writeS_le f b _ (hall _ (by
  have := byKeys_lt (List.mem_of_mem_take hi)
  simp only [List.getD, List.getElem?_eq_getElem (show i < j.l.length by omega), Option.getD_some]
  exact List.getElem_mem _))
 have h2 := sumf_take (fun i => 32 * wt (j.l.getD i J.zero) + 6 * (j.ks.getD i []).length + 4) hp
 omega
theorem wMap_len {f : Nat} {j : J} (h : goodB (f + 1) j = true) (h5 : j.k = 5) (b : Tx) :
  (wMap (writeS f) j.ks j.l true b (byKeys j.ks)).length + 32 ≤ b.length + 32 * wt j := by
 have hm := map_sum h h5
 obtain ⟨hs, ha⟩ := Bool.and_eq_true_iff.1 (show (shapedB j && j.l.all (goodB f)) = true from h)
 have hall : ∀ y ∈ j.l, goodB f y = true := fun y hy => List.all_eq_true.1 ha y hy
 obtain ⟨hl, hd⟩ := shaped_map hs h5
 have h1 := wMap_le (w := writeS f) (ks := j.ks) (l := j.l) (byKeys j.ks) true b fun i hi b => writeS_le f b _ (hall _ (by
  have := byKeys_lt hi
  simp only [List.getD, List.getElem?_eq_getElem (show i < j.l.length by omega), Option.getD_some]
  exact List.getElem_mem _))
 omega
theorem wList_step {f : Nat} {j : J} (h : goodB (f + 1) j = true) (b : Tx) {i : Nat} {y : J} (hp : j.l[i]? = some y) :
  (wList (writeS f) true b (j.l.take i)).length + 32 * wt y + 32 ≤ b.length + 32 * wt j := by
 obtain ⟨hs, ha⟩ := Bool.and_eq_true_iff.1 (show (shapedB j && j.l.all (goodB f)) = true from h)
 have hall : ∀ y ∈ j.l, goodB f y = true := fun y hy => List.all_eq_true.1 ha y hy
 have hw := wt_eq j
 have h1 := wList_le (w := writeS f) (j.l.take i) true b fun y hy b => writeS_le f b _ (hall _ (List.mem_of_mem_take hy))
 have h2 := sumf_take wt hp
 rw [wts_sum, wts_sum] at h2
 omega
end Go.Proofs.YtmhmjlfajlpabaaDoor
